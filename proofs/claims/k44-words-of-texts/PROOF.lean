import PyProof.Rows.All
import Wide.All
import OpenK.AllK
import Wide.FinOn
import HandS.ForMost
import HandS.ForExc
import HandS.Wide
import PyProof.CollectStr
import PyProof.ListRange
import HandS.Conv
import HandS.TupAny
import HandS.TupMul
import HandS.IsInst
import HandS.StrMore
import HandS.RaiseMore
import HandS.Style
import HandS.EndBits
import PyProof.StrLawsIn
import PyProof.StrLawsTight
import PyProof.StrLawsChain
import PySem.Challenge.RW_kneenets_k44_words_of_texts
/-! Kn0 -/
set_option Elab.async false
set_option linter.all false
set_option maxRecDepth 100000
/-! Kn part 0: rules that the layer lacks: list(text), text * int. -/
namespace Kn
open PySem PySem.Spec PyProof.Rows L2

section
variable {prog : Program} {w : World} {A : Around} {E : Value → Shared → Prop} {s : Shared}
theorem extendStr {R : Result → Shared → Prop} (hh : A.handled = none) (x : Str) (t : Tok) (S : Addr) (res : Value) (c₀ : Nat) (hS : s.heap.get? S = some { cls := .type "list", data := .seq #[] c₀ }) (hn : x.cps.size ≤ sizeLine)
    (hR : ∀ s' acc' c', (∀ b o, b ≠ S → s.heap.get? b = some o → s'.heap.get? b = some o) → s'.gens = s.gens → s'.drawn = s.drawn → s'.os = s.os → s'.heap.get? S = some { cls := .type "list", dict := none, data := .seq acc' c', slots := #[] } → ItemsOf (SignAt x) acc' x.cps.size → R (.ok (.ret res)) s') :
    wpAny (model prog w) A.in1 (Builtin.List.listExtendWith (.ref S) (.str x t) res)
      (fun fin s' => match fin with | .done f => R (.ok f) s' | .again c' => c'.quiet = true ∧ codeAny (model prog w) A c' R s') (fun e s' => R (.error e) s') s := by
  unfold Builtin.List.listExtendWith
  refine wpAny_bind (wpAny_typeOf (T := "str") (v := .str x t) rfl ?_)
  have h1 : Builtin.List.listSameRef (.ref S) (.str x t) = false := rfl
  have h2 : (Value.type "str" == Value.type "list") = false := by decide
  have h3 : (Value.type "str" == Value.type "tuple") = false := by decide
  simp only [h1, h2, h3, Bool.or_false, Bool.false_eq_true, if_false]
  refine wpAny_bind (wpAny_pyIter_str fun o St W hst => ?_)
  refine wpAny_bind (wpAny_holding ?_)
  unfold Builtin.List.listLengthHint
  refine wpAny_bind (wpAny_specialOf (T := "str") (v := .str x t) rfl PySem.F.str_len ?_)
  wp_delta
  refine wpAny_bind (wpAny_isInstance (T := "str") (v := .str x t) (b := true) rfl (by rw [isSubtype_type]; kernel_rfl) ?_)
  show wpAny _ A.in1 (typeOf (Value.str x t) >>= _) _ _ _
  refine wpAny_bind (wpAny_typeOf (T := "str") (v := .str x t) rfl ?_)
  refine wpAny_pure ?_
  rw [if_neg (by decide)]
  have hSlt := Heap.lt_size hS
  have hSf : S ∉ [s.heap.objs.size] := fun hm => Nat.lt_irrefl _ ((List.mem_singleton.mp hm) ▸ hSlt)
  have hS1 : (s.heap.push o).get? S = some { cls := .type "list", data := .seq #[] c₀ } := Heap.get?_push_of_some _ hS
  refine wpAny_pure ⟨plainId_quiet PySem.F.plain_extend_loop _, codeAny_extend_loopS (W A.in1 hh).toS hn _ hSf _ x.cps.size 0 _ _ _ rfl (Nat.zero_le _) hst hS1 (ItemsOf.nil _) fun s' acc' c' hm hS' hacc => ?_⟩
  refine hR s' acc' c' (fun b ob hb e => hm.heap b ob (fun hmem => ?_) (Heap.get?_push_of_some _ e)) hm.gens hm.drawn hm.os hS' hacc
  rcases List.mem_cons.mp hmem with e' | hmem
  · exact hb e'
  · exact absurd (Heap.lt_size e) (by rw [List.mem_singleton.mp hmem]; exact Nat.lt_irrefl _)
theorem callListStr {Q : Value → Shared → Prop} (hh : A.handled = none) (x : Str) (t : Tok) (hn : x.cps.size ≤ sizeLine)
    (hQ : ∀ s' acc' c', (∀ b o, s.heap.get? b = some o → s'.heap.get? b = some o) → s'.gens = s.gens → s'.drawn = s.drawn → s'.os = s.os → s'.heap.get? s.heap.objs.size = some { cls := .type "list", dict := none, data := .seq acc' c', slots := #[] } → ItemsOf (SignAt x) acc' x.cps.size → Q (.ref s.heap.objs.size) s') :
    wpAny (model prog w) A (call (.type "list") [.str x t]) Q E s := by
  refine callType_codes (Q₁ := fun obj s₁ => obj = .ref s.heap.objs.size ∧ s₁ = { s with heap := s.heap.push { cls := .type "list", data := .seq #[] } }) PySem.F.called_list (PySem.F.typeCall_list_1 _) PySem.F.entry_list_init
    (code_list_new _ ⟨rfl, rfl⟩) fun obj s₁ h₁ => ?_
  obtain ⟨rfl, rfl⟩ := h₁
  have hS : (s.heap.push { cls := .type "list", data := .seq #[] }).get? s.heap.objs.size = some { cls := .type "list", data := .seq #[] } := Heap.get?_push_size _ rfl
  refine ⟨⟨_, hS, rfl⟩, PySem.F.args_list_init_2 _ _, ?_⟩
  show wpAny _ _ (do let old ← Builtin.List.listItems (.ref s.heap.objs.size); Builtin.List.listUpdate (.ref s.heap.objs.size) (fun _ => #[]); letGo old.toList.reverse; Builtin.List.listExtendWith (.ref s.heap.objs.size) (.str x t) .none) _ _ _
  refine wpAny_bind ?_
  unfold Builtin.List.listItems
  refine wpAny_bind (wpAny_seqItems hS rfl (wpAny_pure ?_))
  show wpAny _ _ (updateSeq s.heap.objs.size (fun _ => #[]) >>= fun _ => letGo (#[] : Array Value).toList.reverse >>= fun _ => Builtin.List.listExtendWith (.ref s.heap.objs.size) (.str x t) .none) _ _ _
  refine wpAny_bind (wpAny_updateSeq hS rfl ?_)
  have hS₂ := Heap.get?_update_self (Obj.mapSeq (fun _ => (#[] : Array Value))) hS rfl
  refine wpAny_bind (wpAny_letGo ?_)
  refine extendStr (A := A.in1) hh x t _ .none _ hS₂ hn fun s' acc' c' hk hg hd ho hS' hacc => ?_
  refine ⟨rfl, hQ s' acc' c' (fun b ob e => ?_) hg hd ho hS' hacc⟩
  have hb : b ≠ s.heap.objs.size := Nat.ne_of_lt (Heap.lt_size e)
  exact hk b ob hb ((Heap.get?_update_other _ _ (Ne.symm hb)).trans (Heap.get?_push_of_some _ e))
end
/-- the signs of a text -/
def signsV (x : Str) : List V := x.cps.toList.map fun c => .str ⟨#[c]⟩
theorem call_list_str {X : Cx} (hc : X.calm = true) : CallR X (.type "list") (fun xs H Q => ∃ x, xs = [.str x] ∧ x.length ≤ sizeLine ∧ ∀ l, H l = none → Q (.ref l) (upd H l (.lst (signsV x)))) := by
  intro pins s σ H xs us Q I r h
  obtain ⟨x, rfl, hz, q⟩ := h
  obtain ⟨u, rfl, t, rfl⟩ := vals1 r
  refine callListStr (I.ok.hd hc) x t hz fun s' acc' c' hk hg hd ho hS hacc => ?_
  obtain ⟨hp, g, d, tk, os⟩ := s'
  cases hg
  cases hd
  cases ho
  have hv : Vals (signsV x) acc'.toList := by
    have hl : (signsV x).length = acc'.toList.length := by unfold signsV; rw [List.length_map, Array.length_toList, Array.length_toList]; exact hacc.1.symm
    refine L2.vals_of_at hl fun j v u h1 h2 => ?_
    obtain ⟨t', c, e1, e2⟩ : ∃ t' c, x.cps[j]? = some c ∧ u = .str ⟨#[c]⟩ t' := by
      obtain ⟨c, t', h3, h4⟩ := hacc.2 j u (by rw [← Array.getElem?_toList]; exact h2)
      exact ⟨t', c, h3, h4⟩
    unfold signsV at h1
    rw [List.getElem?_map, Array.getElem?_toList, e1] at h1
    cases h1
    exact ⟨t', e2⟩
  refine ⟨.ref s.heap.objs.size, upd H s.heap.objs.size (.lst (signsV x)), I.laid (t' := tk) hk (Nat.le_refl _) (show ObjOk X.prog X.w _ hp _ (.lst (signsV x)) from ⟨?_, acc'.toList, c', hv, ?_⟩), rfl, q _ (I.hok.fresh (Nat.le_refl _))⟩
  · unfold signsV; rw [List.length_map, Array.length_toList]; exact hz
  · rw [Array.toArray_toList]; exact hS

/-- text * int -/
def repT (x : Str) (n : Nat) : Str := ⟨(List.replicate n x.cps).foldl (· ++ ·) #[]⟩
theorem fold_size (a : Array Nat) : ∀ (n : Nat) (b : Array Nat), ((List.replicate n a).foldl (· ++ ·) b).size = b.size + n * a.size
  | 0, b => by simp
  | n + 1, b => by
    rw [List.replicate_succ, List.foldl_cons, fold_size a n, Array.size_append, Nat.succ_mul]
    omega
theorem op_mul_str {X : Cx} : OpR X (binaryOp .Mult) (fun x y H Q => ∃ z i, x = .str z ∧ y = .int i ∧ 2 ≤ i ∧ i ≤ 1000 ∧ 1 ≤ z.length ∧ z.length ≤ 1000 ∧ Q (.str (repT z i.toNat)) H) := by
  intro pins s σ H x y v u Q I rx ry h
  obtain ⟨z, i, rfl, rfl, h1, h2, h3, h4, q⟩ := h
  obtain ⟨t, rfl⟩ := rx
  obtain ⟨t', rfl⟩ := ry
  have hb : (i == 1 || z.length == 0) = false := by
    rw [Bool.or_eq_false_iff]
    exact ⟨by rw [beq_eq_false_iff_ne]; omega, by rw [beq_eq_false_iff_ne]; omega⟩
  have hm : z.length * i.toNat ≤ 1000000 := Nat.mul_le_mul h4 (by omega : i.toNat ≤ 1000)
  refine PySem.P.mul_str ?_ (fun _ _ => ?_) (fun _ _ => ?_) ?_
  · rw [Bool.or_eq_false_iff]
    exact ⟨decide_eq_false (by omega), decide_eq_false (by omega)⟩
  · have : (9007199254740992 : Int) ≤ (2 ^ 63 - 1) / i := by
      rw [Int.le_ediv_iff_mul_le (by omega)]
      omega
    omega
  · unfold Builtin.Str.tooLong
    have sl := sizeLine_eq
    first | exact decide_eq_false (by omega) | (simp; omega)
  · rw [if_neg (by omega), hb, if_neg Bool.false_ne_true]
    refine ⟨?_, .str _, H, I.tok _, ⟨_, rfl⟩, q⟩
    show ((List.replicate i.toNat z.cps).foldl (· ++ ·) #[]).size ≤ sizeLine
    rw [fold_size]
    have sl := sizeLine_eq
    have e : z.cps.size = z.length := rfl
    rw [e, Nat.mul_comm]
    have e0 : (#[] : Array Nat).size = 0 := rfl
    rw [e0]
    omega
end Kn

/-! Kn1 -/
/-! Kn: a functional reading of Python defs over the hand layer. Part 1: data, slots, the relation to the heap. -/
namespace Kn
open PySem PySem.Spec PyProof.Rows L2

abbrev St := L2.St
/-- data: trees without addresses -/
inductive D where
  | non | bl (b : Bool) | int (i : Int) | str (x : Str)
  | lst (xs : List D) | tup (xs : List D)
  /-- the script -/
  | scr (xs : List D)
  | dct (ks : List Key) (vs : List D)
  | ins (c : Str) (ns : List Str) (vs : List D)

instance : Inhabited D := ⟨.non⟩

/-- where a class stands: told by name -/
abbrev ClsAt := Str → Addr → Prop

mutual
/-- d is what v holds in the heap H (that never changes) -/
inductive RV (K : PySem.W.Frag) (H : Hp) : D → V → Prop
  | non : RV K H .non .non
  | bl (b : Bool) : RV K H (.bl b) (.bl b)
  | int (i : Int) : RV K H (.int i) (.int i)
  | str (x : Str) : RV K H (.str x) (.str x)
  | lst {a : Addr} {vs : List V} {ds : List D} : H a = some (.lst vs) → RVs K H ds vs → RV K H (.lst ds) (.ref a)
  | scr {a : Addr} {vs : List V} {ds : List D} : SqL K H a vs → RVs K H ds vs → RV K H (.scr ds) (.ref a)
  | tup {a : Addr} {vs : List V} {ds : List D} : SqT K H a vs → RVs K H ds vs → RV K H (.tup ds) (.ref a)
  | dct {a : Addr} {kvs : List (Key × V)} {ks : List Key} {ds : List D} : Rd H a (.dK kvs) → ks = kvs.map (·.1) → RVs K H ds (kvs.map (·.2)) → RV K H (.dct ks ds) (.ref a)
inductive RVs (K : PySem.W.Frag) (H : Hp) : List D → List V → Prop
  | nil : RVs K H [] []
  | cons {d : D} {v : V} {ds : List D} {vs : List V} : RV K H d v → RVs K H ds vs → RVs K H (d :: ds) (v :: vs)
end

theorem sqL_same {K : PySem.W.Frag} {H H' : Hp} (s : Same H H') {a : Addr} {vs : List V} (h : SqL K H a vs) : SqL K H' a vs := s.seq h
theorem sqT_same {K : PySem.W.Frag} {H H' : Hp} (s : Same H H') {a : Addr} {vs : List V} (h : SqT K H a vs) : SqT K H' a vs := by
  rcases h with (h | ⟨o, h⟩) | h
  · exact .inl (.inl (s _ _ h))
  · exact .inl (.inr ⟨o, s _ _ h⟩)
  · exact .inr h
theorem rd_same {H H' : Hp} (s : Same H H') {a : Addr} {u : HO} (h : Rd H a u) : Rd H' a u := by
  rcases h with h | ⟨o, h⟩
  · exact .inl (s _ _ h)
  · exact .inr ⟨o, s _ _ h⟩

mutual
theorem RV.mono {K : PySem.W.Frag} {H H' : Hp} (s : Same H H') : ∀ {d : D} {v : V}, RV K H d v → RV K H' d v
  | _, _, .non => .non
  | _, _, .bl b => .bl b
  | _, _, .int i => .int i
  | _, _, .str x => .str x
  | _, _, .lst h r => .lst (s _ _ h) (RVs.mono s r)
  | _, _, .scr h r => .scr (sqL_same s h) (RVs.mono s r)
  | _, _, .tup h r => .tup (sqT_same s h) (RVs.mono s r)
  | _, _, .dct h e r => .dct (rd_same s h) e (RVs.mono s r)
theorem RVs.mono {K : PySem.W.Frag} {H H' : Hp} (s : Same H H') : ∀ {ds : List D} {vs : List V}, RVs K H ds vs → RVs K H' ds vs
  | _, _, .nil => .nil
  | _, _, .cons r t => .cons (RV.mono s r) (RVs.mono s t)
end
theorem RVs.length {K : PySem.W.Frag} {H : Hp} : ∀ {ds : List D} {vs : List V}, RVs K H ds vs → ds.length = vs.length
  | _, _, .nil => rfl
  | _, _, .cons _ t => by rw [List.length_cons, List.length_cons, RVs.length t]
theorem RVs.get {K : PySem.W.Frag} {H : Hp} : ∀ {ds : List D} {vs : List V} {i : Nat} {d : D}, RVs K H ds vs → ds[i]? = some d → ∃ v, vs[i]? = some v ∧ RV K H d v
  | _, _, _, _, .nil, e => by simp at e
  | _, _, 0, _, .cons r _, e => by simp at e; subst e; exact ⟨_, rfl, r⟩
  | _, _, i + 1, d, .cons _ t, e => by
    obtain ⟨v, h1, h2⟩ := RVs.get (i := i) (d := d) t (by simpa using e)
    exact ⟨v, by simpa using h1, h2⟩
theorem RVs.getV {K : PySem.W.Frag} {H : Hp} : ∀ {ds : List D} {vs : List V} {i : Nat} {v : V}, RVs K H ds vs → vs[i]? = some v → ∃ d, ds[i]? = some d ∧ RV K H d v
  | _, _, _, _, .nil, e => by simp at e
  | _, _, 0, _, .cons r _, e => by simp at e; subst e; exact ⟨_, rfl, r⟩
  | _, _, i + 1, v, .cons _ t, e => by
    obtain ⟨d, h1, h2⟩ := RVs.getV (i := i) (v := v) t (by simpa using e)
    exact ⟨d, by simpa using h1, h2⟩
theorem RVs.append {K : PySem.W.Frag} {H : Hp} : ∀ {ds es : List D} {vs us : List V}, RVs K H ds vs → RVs K H es us → RVs K H (ds ++ es) (vs ++ us)
  | _, _, _, _, .nil, s => s
  | _, _, _, _, .cons r t, s => .cons r (RVs.append t s)
theorem RVs.set {K : PySem.W.Frag} {H : Hp} {d : D} {v : V} (r : RV K H d v) : ∀ {ds : List D} {vs : List V} (i : Nat), RVs K H ds vs → RVs K H (ds.set i d) (vs.set i v)
  | _, _, _, .nil => .nil
  | _, _, 0, .cons _ t => .cons r t
  | _, _, i + 1, .cons q t => .cons q (RVs.set r i t)
theorem RVs.eraseIdx {K : PySem.W.Frag} {H : Hp} : ∀ {ds : List D} {vs : List V} (i : Nat), RVs K H ds vs → RVs K H (ds.eraseIdx i) (vs.eraseIdx i)
  | _, _, _, .nil => .nil
  | _, _, 0, .cons _ t => t
  | _, _, i + 1, .cons q t => .cons q (RVs.eraseIdx i t)
theorem RVs.take {K : PySem.W.Frag} {H : Hp} : ∀ {ds : List D} {vs : List V} (i : Nat), RVs K H ds vs → RVs K H (ds.take i) (vs.take i)
  | _, _, 0, _ => .nil
  | _, _, _ + 1, .nil => .nil
  | _, _, i + 1, .cons q t => .cons q (RVs.take i t)
theorem RVs.drop {K : PySem.W.Frag} {H : Hp} : ∀ {ds : List D} {vs : List V} (i : Nat), RVs K H ds vs → RVs K H (ds.drop i) (vs.drop i)
  | _, _, 0, h => h
  | _, _, _ + 1, .nil => .nil
  | _, _, i + 1, .cons _ t => RVs.drop i t

/-! ### slots -/
inductive Slot where
  | non | val (d : D) | own (d : D) | bor (d : D)
abbrev Env := List Slot
instance : Inhabited Slot := ⟨.non⟩
/-- a value that an expression gives: data; a new list or dict that nothing else holds; the frame's own thing at a slot -/
inductive R where
  | val (d : D) | fr (d : D) | sl (i : Nat)
/-- an expression's outcome -/
inductive O (α : Type) where
  | ok (a : α) (S : Env)
  | ex (c : Str) (ns : List Str) (ds : List D) (S : Env)
  | bad
def O.bind {α β : Type} (x : O α) (f : α → Env → O β) : O β := match x with
  | .ok a S => f a S
  | .ex c ns ds S => .ex c ns ds S
  | .bad => .bad
/-- a call's outcome: the value, the lent things behind it -/
structure Cc where
  call : Nat → List Slot → O R
  fuel : Nat
abbrev Sm := Cc → Env → O R
abbrev Sl := Cc → Env → O (List D)
abbrev Sb := Cc → Env → O Bool

/-- what stands at the address of an own thing -/
inductive NodeR (K : PySem.W.Frag) (Hs : Hp) : D → HO → Prop
  | lst {ds : List D} {vs : List V} : RVs K Hs ds vs → NodeR K Hs (.lst ds) (.lst vs)
  | dct {ks : List Key} {ds : List D} {kvs : List (Key × V)} : ks = kvs.map (·.1) → RVs K Hs ds (kvs.map (·.2)) → NodeR K Hs (.dct ks ds) (.dK kvs)
theorem NodeR.mono {K : PySem.W.Frag} {H H' : Hp} (s : Same H H') {d : D} {o : HO} (h : NodeR K H d o) : NodeR K H' d o := by
  cases h with
  | lst r => exact .lst (r.mono s)
  | dct e r => exact .dct e (r.mono s)
/-- frozen, it is data -/
theorem NodeR.rv {K : PySem.W.Frag} {H : Hp} {d : D} {o : HO} {a : Addr} (h : NodeR K H d o) (e : H a = some o) : RV K H d (.ref a) := by
  cases h with
  | lst r => exact .lst e r
  | dct q r => exact .dct (.inl e) q r

def Slot.mut : Slot → Option D
  | .own d => some d
  | .bor d => some d
  | _ => none

/-- the frame's slots S stand for σ in the heap H: Hs the part that never changes, F the part that others own, B the values of the lent slots at the entry -/
structure Rep (K : PySem.W.Frag) (F : Hp) (B : List V) (Hs : Hp) (S : Env) (σ : St) (H : Hp) : Prop where
  sub : Same Hs H
  frm : Same F H
  dis : ∀ a o, Hs a = some o → F a = none
  len : S.length ≤ σ.length
  val : ∀ (i : Nat) (d : D), S[i]? = some (.val d) → ∃ v, σ[i]? = some (some v) ∧ RV K Hs d v
  own : ∀ (i : Nat) (s : Slot) (d : D), S[i]? = some s → s.mut = some d → ∃ a o, σ[i]? = some (some (.ref a)) ∧ Hs a = none ∧ F a = none ∧ H a = some o ∧ NodeR K Hs d o
  bor : ∀ (i : Nat) (d : D), S[i]? = some (.bor d) → ∃ v, B[i]? = some v ∧ σ[i]? = some (some v)
  inj : ∀ (i j : Nat) (s t : Slot) (a : Addr), S[i]? = some s → S[j]? = some t → s.mut.isSome = true → t.mut.isSome = true → σ[i]? = some (some (.ref a)) → σ[j]? = some (some (.ref a)) → i = j

/-- no own slot holds the address -/
def Apart (S : Env) (σ : St) (a : Addr) : Prop := ∀ (i : Nat) (s : Slot), S[i]? = some s → s.mut.isSome = true → σ[i]? ≠ some (some (.ref a))

/-- a result stands for a value -/
def RR (K : PySem.W.Frag) (F Hs : Hp) (S : Env) (σ : St) (H : Hp) : R → V → Prop
  | .val d, v => RV K Hs d v
  | .fr d, v => ∃ a o, v = .ref a ∧ Hs a = none ∧ F a = none ∧ H a = some o ∧ NodeR K Hs d o ∧ Apart S σ a
  | .sl i, v => σ[i]? = some (some v) ∧ ∃ s, S[i]? = some s ∧ s.mut.isSome = true

/-- an exception of the class called c with these fields -/
structure XR (K : PySem.W.Frag) (mg : Str → Option Value) (F Hs : Hp) (c : Str) (ns : List Str) (ds : List D) (cls : Value) (d : Option Addr) (H : Hp) : Prop where
  cls : ∃ C, cls = .ref C ∧ mg c = some (.ref C)
  fld : ∃ dd vs, d = some dd ∧ H dd = some (.xd (ns.zip vs)) ∧ RVs K Hs ds vs ∧ ns.length = vs.length ∧ Hs dd = none ∧ F dd = none

/-- from a known state: what is wanted of the outcome of an expression -/
def Fin (K : PySem.W.Frag) (mg : Str → Option Value) (W : WX) (F : Hp) (B : List V) (Hs : Hp) (σ : St) (H : Hp) (Q : VK) : O R → Prop
  | .ok r S' => ∀ v H' Hs', Same Hs Hs' → Rep K F B Hs' S' σ H' → RR K F Hs' S' σ H' r v → Q v H'
  | .ex c ns ds S' => ∀ cls d H' Hs', Same Hs Hs' → Rep K F B Hs' S' σ H' → XR K mg F Hs' c ns ds cls d H' → W cls d σ H'
  | .bad => False
def Eof (X : Cx) (W : WX) (C : Cc) (f : Sm) : TE := fun σ H Q => ∃ F B Hs S, Rep X.K F B Hs S σ H ∧ Fin X.K X.mg W F B Hs σ H Q (f C S)

theorem PE.wk {X : Cx} {e : Expr} {t t' : TE} (h : PE X e t) (w : ∀ σ H Q, t' σ H Q → t σ H Q) : PE X e t' := ⟨fun pins s σ H Q I q => h.run pins s σ H Q I (w σ H Q q)⟩
theorem PT.wk {X : Cx} {e : Expr} {t t' : TT} (h : PT X e t) (w : ∀ σ H Q, t' σ H Q → t σ H Q) : PT X e t' := ⟨fun pins s σ H Q I q => h.run pins s σ H Q I (w σ H Q q)⟩
theorem PA.wk {X : Cx} {e : List Expr} {t t' : TA} (h : PA X e t) (w : ∀ σ H Q, t' σ H Q → t σ H Q) : PA X e t' := ⟨fun pos pins s σ H Q I q => h.run pos pins s σ H Q I (w σ H Q q)⟩
theorem PS.wk {X : Cx} {e : Stmt} {t t' : TS} (h : PS X e t) (w : ∀ σ H Q, t' Q σ H → t Q σ H) : PS X e t' := ⟨fun pins s σ H Q I q => h.run pins s σ H Q I (w σ H Q q)⟩
theorem PSs.wk {X : Cx} {e : List Stmt} {t t' : TS} (h : PSs X e t) (w : ∀ σ H Q, t' Q σ H → t Q σ H) : PSs X e t' := ⟨fun pins s σ H Q I q => h.run pins s σ H Q I (w σ H Q q)⟩

/-! ### the relation kept -/
section
variable {K : PySem.W.Frag} {F : Hp} {B : List V} {Hs Hs' : Hp} {S : Env} {σ : St} {H H' : Hp}
theorem Rep.none_of (r : Rep K F B Hs S σ H) {p : Addr} (h : H p = none) : Hs p = none ∧ F p = none := ⟨r.sub.free h, r.frm.free h⟩
theorem Rep.apart_new (r : Rep K F B Hs S σ H) {p : Addr} (h : H p = none) : Apart S σ p := fun i s e m q => by
  cases hm : s.mut with
  | none => rw [hm] at m; cases m
  | some d =>
    obtain ⟨a, o, e1, _, _, e2, _⟩ := r.own i s d e hm
    rw [q] at e1
    cases e1
    rw [h] at e2; cases e2
/-- the heap grows by a new object -/
theorem Rep.new (r : Rep K F B Hs S σ H) {p : Addr} {o : HO} (h : H p = none) : Rep K F B Hs S σ (upd H p o) := by
  have k : Same H (upd H p o) := fun b u e => by rw [upd_ne (ne_of_none e h)]; exact e
  refine ⟨r.sub.trans k, r.frm.trans k, r.dis, r.len, r.val, fun i s d e m => ?_, r.bor, r.inj⟩
  obtain ⟨a, o, e1, e2, e3, e4, e5⟩ := r.own i s d e m
  exact ⟨a, o, e1, e2, e3, k _ _ e4, e5⟩
/-- an object that no one owns is taken as never changing -/
theorem Rep.take (r : Rep K F B Hs S σ H) {p : Addr} {o : HO} (h : H p = some o) (hs : Hs p = none) (hf : F p = none) (ha : Apart S σ p) : Same Hs (upd Hs p o) ∧ Rep K F B (upd Hs p o) S σ H := by
  have k : Same Hs (upd Hs p o) := fun b u e => by rw [upd_ne (ne_of_none e hs)]; exact e
  refine ⟨k, fun b u e => ?_, r.frm, fun b u e => ?_, r.len, fun i d e => ?_, fun i s d e m => ?_, r.bor, r.inj⟩
  · by_cases hb : b = p
    · subst hb; rw [upd_same] at e; cases e; exact h
    · rw [upd_ne hb] at e; exact r.sub _ _ e
  · by_cases hb : b = p
    · subst hb; exact hf
    · rw [upd_ne hb] at e; exact r.dis _ _ e
  · obtain ⟨v, e1, e2⟩ := r.val i d e
    exact ⟨v, e1, e2.mono k⟩
  · obtain ⟨a, o', e1, e2, e3, e4, e5⟩ := r.own i s d e m
    have ne : a ≠ p := fun z => ha i s e (by rw [m]; rfl) (by rw [← z]; exact e1)
    exact ⟨a, o', e1, by rw [upd_ne ne]; exact e2, e3, e4, e5.mono k⟩
theorem Slot.mut_val (d : D) : (Slot.val d).mut = none := rfl
/-- a slot becomes data (its own thing no longer the frame's alone) -/
theorem Rep.freeze (r : Rep K F B Hs S σ H) {i : Nat} {d : D} (e : S[i]? = some (.own d)) : ∃ a Hs', σ[i]? = some (some (.ref a)) ∧ Same Hs Hs' ∧ Rep K F B Hs' (S.set i (.val d)) σ H ∧ RV K Hs' d (.ref a) := by
  obtain ⟨a, o, e1, e2, e3, e4, e5⟩ := r.own i _ d e rfl
  have k : Same Hs (upd Hs a o) := fun b u q => by rw [upd_ne (ne_of_none q e2)]; exact q
  have rv : RV K (upd Hs a o) d (.ref a) := (e5.mono k).rv upd_same
  have hi : i < S.length := (List.getElem?_eq_some_iff.mp e).1
  refine ⟨a, upd Hs a o, e1, k, ⟨fun b u q => ?_, r.frm, fun b u q => ?_, by rw [List.length_set]; exact r.len, fun j d' q => ?_, fun j s d' q m => ?_, fun j d' q => ?_, fun j l s t b q1 q2 m1 m2 => ?_⟩, rv⟩
  · by_cases hb : b = a
    · subst hb; rw [upd_same] at q; cases q; exact e4
    · rw [upd_ne hb] at q; exact r.sub _ _ q
  · by_cases hb : b = a
    · subst hb; exact e3
    · rw [upd_ne hb] at q; exact r.dis _ _ q
  · by_cases hj : j = i
    · subst hj
      rw [List.getElem?_set_self hi] at q
      cases q
      exact ⟨_, e1, rv⟩
    · rw [List.getElem?_set_ne (Ne.symm hj)] at q
      obtain ⟨v, z1, z2⟩ := r.val j d' q
      exact ⟨v, z1, z2.mono k⟩
  · by_cases hj : j = i
    · subst hj
      rw [List.getElem?_set_self hi] at q
      cases q
      cases m
    · rw [List.getElem?_set_ne (Ne.symm hj)] at q
      obtain ⟨a', o', z1, z2, z3, z4, z5⟩ := r.own j s d' q m
      have ne : a' ≠ a := fun z => hj (r.inj j i s (.own d) a q e (by rw [m]; rfl) rfl (by rw [← z]; exact z1) e1)
      exact ⟨a', o', z1, by rw [upd_ne ne]; exact z2, z3, z4, z5.mono k⟩
  · by_cases hj : j = i
    · subst hj
      rw [List.getElem?_set_self hi] at q
      cases q
    · rw [List.getElem?_set_ne (Ne.symm hj)] at q
      exact r.bor j d' q
  · by_cases hj : j = i
    · subst hj
      rw [List.getElem?_set_self hi] at q1
      cases q1
      cases m1
    · by_cases hl : l = i
      · subst hl
        rw [List.getElem?_set_self hi] at q2
        cases q2
        cases m2
      · rw [List.getElem?_set_ne (Ne.symm hj)] at q1
        rw [List.getElem?_set_ne (Ne.symm hl)] at q2
        exact r.inj j l s t b q1 q2 m1 m2
/-- the own thing at a slot is changed -/
theorem Rep.change (r : Rep K F B Hs S σ H) {i : Nat} {s s' : Slot} {d d' : D} {a : Addr} {o : HO} (e : S[i]? = some s) (m : s.mut = some d) (m' : s'.mut = some d') (hb : (∃ z, s' = .bor z) → ∃ z, s = .bor z) (ea : σ[i]? = some (some (.ref a))) (n : NodeR K Hs d' o) :
    Rep K F B Hs (S.set i s') σ (upd H a o) := by
  obtain ⟨a', o', e1, e2, e3, e4, e5⟩ := r.own i s d e m
  rw [ea] at e1
  cases e1
  have hi : i < S.length := (List.getElem?_eq_some_iff.mp e).1
  refine ⟨fun b u q => ?_, fun b u q => ?_, r.dis, by rw [List.length_set]; exact r.len, fun j d' q => ?_, fun j t z q mm => ?_, fun j d' q => ?_, fun j l t u b q1 q2 m1 m2 => ?_⟩
  · rw [upd_ne (ne_of_none q e2)]; exact r.sub _ _ q
  · rw [upd_ne (ne_of_none q e3)]; exact r.frm _ _ q
  · by_cases hj : j = i
    · subst hj
      rw [List.getElem?_set_self hi] at q
      cases q
      cases m'
    · rw [List.getElem?_set_ne (Ne.symm hj)] at q
      exact r.val j d' q
  · by_cases hj : j = i
    · subst hj
      rw [List.getElem?_set_self hi] at q
      cases q
      rw [m'] at mm; cases mm
      exact ⟨a, o, ea, e2, e3, upd_same, n⟩
    · rw [List.getElem?_set_ne (Ne.symm hj)] at q
      obtain ⟨a', o', z1, z2, z3, z4, z5⟩ := r.own j t z q mm
      have ne : a' ≠ a := fun w => hj (r.inj j i t s a q e (by rw [mm]; rfl) (by rw [m]; rfl) (by rw [← w]; exact z1) ea)
      exact ⟨a', o', z1, z2, z3, by rw [upd_ne ne]; exact z4, z5⟩
  · by_cases hj : j = i
    · subst hj
      rw [List.getElem?_set_self hi] at q
      cases q
      obtain ⟨z, hz⟩ := hb ⟨_, rfl⟩
      subst hz
      exact r.bor j z e
    · rw [List.getElem?_set_ne (Ne.symm hj)] at q
      exact r.bor j d' q
  · have back : ∀ (j : Nat) (t : Slot), (S.set i s')[j]? = some t → t.mut.isSome = true → ∃ t', S[j]? = some t' ∧ t'.mut.isSome = true := fun j t q mm => by
      by_cases hj : j = i
      · subst hj
        exact ⟨s, e, by rw [m]; rfl⟩
      · rw [List.getElem?_set_ne (Ne.symm hj)] at q
        exact ⟨t, q, mm⟩
    obtain ⟨t', q1', m1'⟩ := back j t q1 m1
    obtain ⟨u', q2', m2'⟩ := back l u q2 m2
    exact r.inj j l t' u' b q1' q2' m1' m2'
end
end Kn

/-! Kn2 -/
/-! Kn part 2: the outcome of expressions, two places, operators. -/
namespace Kn
open PySem PySem.Spec PyProof.Rows L2

section
variable {K : PySem.W.Frag} {mg : Str → Option Value} {W : WX} {F : Hp} {B : List V} {Hs Hs' : Hp} {S : Env} {σ : St} {H H' : Hp}
/-- what is wanted of an outcome, by a relation of its value -/
def FinA (K : PySem.W.Frag) (mg : Str → Option Value) (W : WX) (F : Hp) (B : List V) (Hs : Hp) (σ : St) {α : Type} (P : α → Env → Hp → Hp → Prop) : O α → Prop
  | .ok a S' => ∀ H' Hs', Same Hs Hs' → Rep K F B Hs' S' σ H' → P a S' Hs' H'
  | .ex c ns ds S' => ∀ cls d H' Hs', Same Hs Hs' → Rep K F B Hs' S' σ H' → XR K mg F Hs' c ns ds cls d H' → W cls d σ H'
  | .bad => False
theorem FinA.later {α : Type} {P : α → Env → Hp → Hp → Prop} {o : O α} (s : Same Hs Hs') (h : FinA K mg W F B Hs σ P o) : FinA K mg W F B Hs' σ P o := by
  cases o with
  | ok a S' => exact fun H' Hs2 s2 => h H' Hs2 (s.trans s2)
  | ex c ns ds S' => exact fun cls d H' Hs2 s2 => h cls d H' Hs2 (s.trans s2)
  | bad => exact h
theorem Fin.to {Q : VK} {o : O R} (h : Fin K mg W F B Hs σ H Q o) : FinA K mg W F B Hs σ (fun r S' Hs' H' => ∀ v, RR K F Hs' S' σ H' r v → Q v H') o := by
  cases o with
  | ok a S' => exact fun H' Hs2 s2 r v q => h v H' Hs2 s2 r q
  | ex c ns ds S' => exact h
  | bad => exact h
theorem Fin.of {Q : VK} {o : O R} (h : FinA K mg W F B Hs σ (fun r S' Hs' H' => ∀ v, RR K F Hs' S' σ H' r v → Q v H') o) : Fin K mg W F B Hs σ H Q o := by
  cases o with
  | ok a S' => exact fun v H' Hs2 s2 r q => h H' Hs2 s2 r v q
  | ex c ns ds S' => exact h
  | bad => exact h
end

/-- an expression, then what follows -/
theorem eof_bind {X : Cx} {W : WX} {C : Cc} {fa : Sm} {F : Hp} {B : List V} {Hs : Hp} {S : Env} {σ : St} {H : Hp} {α : Type} {P : α → Env → Hp → Hp → Prop} {k : R → Env → O α} (rep : Rep X.K F B Hs S σ H) (h : FinA X.K X.mg W F B Hs σ P ((fa C S).bind k)) (Q1 : VK)
    (next : ∀ r S1 v H1 Hs1, Same Hs Hs1 → Rep X.K F B Hs1 S1 σ H1 → RR X.K F Hs1 S1 σ H1 r v → FinA X.K X.mg W F B Hs1 σ P (k r S1) → Q1 v H1) : Eof X W C fa σ H Q1 := by
  refine ⟨F, B, Hs, S, rep, ?_⟩
  cases e : fa C S with
  | ok r S1 =>
    rw [e] at h
    exact fun v H1 Hs1 s1 rep1 rr => next r S1 v H1 Hs1 s1 rep1 rr (FinA.later s1 h)
  | ex c ns ds S1 => rw [e] at h; exact h
  | bad => rw [e] at h; exact h

/-! ### frozen; looked at -/
def freeze : R → Env → Option (D × Env)
  | .val d, S => some (d, S)
  | .fr d, S => some (d, S)
  | .sl i, S => match S[i]? with
    | some (.own d) => some (d, S.set i (.val d))
    | _ => none
def unfr : R → R
  | .fr d => .val d
  | r => r
def pk : R → Env → Option D
  | .val d, _ => some d
  | .fr d, _ => some d
  | .sl i, S => match S[i]? with
    | some (.own d) => some d
    | some (.bor d) => some d
    | some (.val d) => some d
    | _ => none
/-- what a looked-at value is: data, or an own thing -/
def PV (K : PySem.W.Frag) (Hs H : Hp) (d : D) (v : V) : Prop := RV K Hs d v ∨ ∃ a o, v = .ref a ∧ H a = some o ∧ NodeR K Hs d o
/-- a result that may be looked at later -/
def RW (K : PySem.W.Frag) (Hs : Hp) (σ : St) : R → V → Prop
  | .val d, v => RV K Hs d v
  | .sl i, v => σ[i]? = some (some v)
  | .fr _, _ => False
section
variable {K : PySem.W.Frag} {F : Hp} {B : List V} {Hs Hs' : Hp} {S S' : Env} {σ : St} {H H' : Hp} {r : R} {v : V} {d : D}
theorem RW.mono (s : Same Hs Hs') (h : RW K Hs σ r v) : RW K Hs' σ r v := by
  cases r with
  | val d => exact RV.mono s h
  | sl i => exact h
  | fr d => exact h
theorem freeze_ok (rep : Rep K F B Hs S σ H) (rr : RR K F Hs S σ H r v) (e : freeze r S = some (d, S')) : ∃ Hs', Same Hs Hs' ∧ Rep K F B Hs' S' σ H ∧ RV K Hs' d v := by
  cases r with
  | val d' => cases e; exact ⟨Hs, .refl _, rep, rr⟩
  | fr d' =>
    cases e
    obtain ⟨a, o, e1, e2, e3, e4, e5, e6⟩ := rr
    subst e1
    obtain ⟨k, rep'⟩ := rep.take e4 e2 e3 e6
    exact ⟨_, k, rep', (e5.mono k).rv upd_same⟩
  | sl i =>
    obtain ⟨e1, s, e2, e3⟩ := rr
    unfold freeze at e
    simp only at e
    rw [e2] at e
    cases s with
    | own d' =>
      cases e
      obtain ⟨a, Hs', z1, z2, z3, z4⟩ := rep.freeze e2
      rw [e1] at z1
      cases z1
      exact ⟨Hs', z2, z3, z4⟩
    | non => cases e
    | val d' => cases e
    | bor d' => cases e
theorem unfr_ok (rep : Rep K F B Hs S σ H) (rr : RR K F Hs S σ H r v) : ∃ Hs', Same Hs Hs' ∧ Rep K F B Hs' S σ H ∧ RW K Hs' σ (unfr r) v := by
  cases r with
  | val d' => exact ⟨Hs, .refl _, rep, rr⟩
  | fr d' =>
    obtain ⟨a, o, e1, e2, e3, e4, e5, e6⟩ := rr
    subst e1
    obtain ⟨k, rep'⟩ := rep.take e4 e2 e3 e6
    exact ⟨_, k, rep', (e5.mono k).rv upd_same⟩
  | sl i => exact ⟨Hs, .refl _, rep, rr.1⟩
theorem pk_unfr : pk (unfr r) S = pk r S := by cases r <;> rfl
theorem pk_ok (rep : Rep K F B Hs S σ H) (rw' : RW K Hs σ r v) (e : pk r S = some d) : PV K Hs H d v := by
  cases r with
  | val d' => cases e; exact .inl rw'
  | fr d' => exact rw'.elim
  | sl i =>
    unfold pk at e
    simp only at e
    cases q : S[i]? with
    | none => rw [q] at e; cases e
    | some s =>
      rw [q] at e
      cases s with
      | non => cases e
      | val d' =>
        cases e
        obtain ⟨v', z1, z2⟩ := rep.val i d q
        have z : σ[i]? = some (some v) := rw'
        rw [z1] at z
        cases z
        exact .inl z2
      | own d' =>
        cases e
        obtain ⟨a, o, z1, z2, z3, z4, z5⟩ := rep.own i _ d q rfl
        have z : σ[i]? = some (some v) := rw'
        rw [z1] at z
        cases z
        exact .inr ⟨a, o, rfl, z4, z5⟩
      | bor d' =>
        cases e
        obtain ⟨a, o, z1, z2, z3, z4, z5⟩ := rep.own i _ d q rfl
        have z : σ[i]? = some (some v) := rw'
        rw [z1] at z
        cases z
        exact .inr ⟨a, o, rfl, z4, z5⟩
theorem PV.rv (rep : Rep K F B Hs S σ H) (h : PV K Hs H d v) : RV K H d v := by
  rcases h with h | ⟨a, o, rfl, e, n⟩
  · exact h.mono rep.sub
  · exact (n.mono rep.sub).rv e
/-- its items are data -/
theorem PV.lst (rep : Rep K F B Hs S σ H) {ds : List D} (h : PV K Hs H (.lst ds) v) : ∃ a vs, v = .ref a ∧ Rd H a (.lst vs) ∧ RVs K Hs ds vs := by
  rcases h with h | ⟨a, o, rfl, e, n⟩
  · cases h with
    | lst h1 h2 => exact ⟨_, _, rfl, .inl (rep.sub _ _ h1), h2⟩
  · cases n with
    | lst r => exact ⟨_, _, rfl, .inl e, r⟩
theorem PV.lstE (rep : Rep K F B Hs S σ H) {ds : List D} (h : PV K Hs H (.lst ds) v) : ∃ a vs, v = .ref a ∧ H a = some (.lst vs) ∧ RVs K Hs ds vs := by
  rcases h with h | ⟨a, o, rfl, e, n⟩
  · cases h with
    | lst h1 h2 => exact ⟨_, _, rfl, rep.sub _ _ h1, h2⟩
  · cases n with
    | lst r => exact ⟨_, _, rfl, e, r⟩
theorem PV.scr (rep : Rep K F B Hs S σ H) {ds : List D} (h : PV K Hs H (.scr ds) v) : ∃ a vs, v = .ref a ∧ SqL K H a vs ∧ RVs K Hs ds vs := by
  rcases h with h | ⟨a, o, rfl, e, n⟩
  · cases h with
    | scr h1 h2 => exact ⟨_, _, rfl, sqL_same rep.sub h1, h2⟩
  · cases n
theorem PV.tup (rep : Rep K F B Hs S σ H) {ds : List D} (h : PV K Hs H (.tup ds) v) : ∃ a vs, v = .ref a ∧ SqT K H a vs ∧ SqT K Hs a vs ∧ RVs K Hs ds vs := by
  rcases h with h | ⟨a, o, rfl, e, n⟩
  · cases h with
    | tup h1 h2 => exact ⟨_, _, rfl, sqT_same rep.sub h1, h1, h2⟩
  · cases n
theorem PV.int {i : Int} (h : PV K Hs H (.int i) v) : v = .int i := by
  rcases h with h | ⟨a, o, rfl, e, n⟩
  · cases h; rfl
  · cases n
theorem PV.str {x : Str} (h : PV K Hs H (.str x) v) : v = .str x := by
  rcases h with h | ⟨a, o, rfl, e, n⟩
  · cases h; rfl
  · cases n
theorem PV.bl {x : Bool} (h : PV K Hs H (.bl x) v) : v = .bl x := by
  rcases h with h | ⟨a, o, rfl, e, n⟩
  · cases h; rfl
  · cases n
end

/-! ### the end of an operation -/
/-- what the end of an operation asks: a value, in a state -/
def Got (K : PySem.W.Frag) (F : Hp) (B : List V) (Hs : Hp) (S : Env) (σ : St) (r : R) (Q : VK) : Prop := ∀ v H' Hs', Same Hs Hs' → Rep K F B Hs' S σ H' → RR K F Hs' S σ H' r v → Q v H'
section
variable {K : PySem.W.Frag} {F : Hp} {B : List V} {Hs Hs' : Hp} {S S' : Env} {σ : St} {H H' : Hp} {r : R} {v : V} {d : D} {Q : VK}
theorem Got.val (g : Got K F B Hs S σ (.val d) Q) (rep : Rep K F B Hs S σ H) (h : RV K Hs d v) : Q v H := g v H Hs (.refl _) rep h
theorem Got.fr (g : Got K F B Hs S σ (.fr d) Q) (rep : Rep K F B Hs S σ H) {p : Addr} {o : HO} (hp : H p = none) (n : NodeR K Hs d o) : Q (.ref p) (upd H p o) :=
  g _ _ Hs (.refl _) (rep.new hp) ⟨p, o, rfl, (rep.none_of hp).1, (rep.none_of hp).2, upd_same, n, rep.apart_new hp⟩
/-- a new tuple -/
theorem Got.tup {ds : List D} {vs : List V} (g : Got K F B Hs S σ (.val (.tup ds)) Q) (rep : Rep K F B Hs S σ H) {p : Addr} (hp : H p = none) (n : RVs K Hs ds vs) : Q (.ref p) (upd H p (.tup vs)) := by
  have rep1 := rep.new (o := .tup vs) hp
  obtain ⟨k, rep2⟩ := rep1.take upd_same (rep.none_of hp).1 (rep.none_of hp).2 (rep.apart_new hp)
  exact g _ _ _ k rep2 (.tup (SqT.of upd_same) (n.mono k))
end

/-- the same of a result that a test or an operation makes of looked-at values -/
def sOp1 (g : D → Option R) (fa : Sm) : Sm := fun C S => (fa C S).bind fun r1 S1 => match pk r1 S1 with
  | some d1 => (match g d1 with
    | some r => .ok r S1
    | none => .bad)
  | none => .bad
def sOp2 (g : D → D → Option R) (fa fb : Sm) : Sm := fun C S => (fa C S).bind fun r1 S1 => (fb C S1).bind fun r2 S2 => match pk r1 S2, pk r2 S2 with
  | some d1, some d2 => (match g d1 d2 with
    | some r => .ok r S2
    | none => .bad)
  | _, _ => .bad
/-- an operation on two looked-at values, by its reading -/
def OpD (K : PySem.W.Frag) (r2 : R2) (g : D → D → Option R) : Prop := ∀ {F : Hp} {B : List V} {Hs : Hp} {S : Env} {σ : St} {H : Hp} {d1 d2 : D} {x y : V} {r : R} {Q : VK},
  Rep K F B Hs S σ H → PV K Hs H d1 x → PV K Hs H d2 y → g d1 d2 = some r → Got K F B Hs S σ r Q → r2 x y H Q
theorem op2_ok {X : Cx} {W : WX} {C : Cc} {fa fb : Sm} {r2 : R2} {g : D → D → Option R} (og : OpD X.K r2 g) {σ : St} {H : Hp} {Q : VK} (h : Eof X W C (sOp2 g fa fb) σ H Q) :
    tOp r2 (Eof X W C fa) (Eof X W C fb) σ H Q := by
  obtain ⟨F, B, Hs, S, rep, fin⟩ := h
  refine eof_bind rep fin.to _ fun r1 S1 v1 H1 Hs1 s1 rep1 rr1 fin1 => ?_
  obtain ⟨Hs1', s1', rep1', rw1⟩ := unfr_ok rep1 rr1
  refine eof_bind rep1' (fin1.later s1') _ fun r2 S2 v2 H2 Hs2 s2 rep2 rr2 fin2 => ?_
  obtain ⟨Hs2', s2', rep2', rw2⟩ := unfr_ok rep2 rr2
  rw [← pk_unfr (r := r1), ← pk_unfr (r := r2)] at fin2
  have rw1' := rw1.mono (s2.trans s2')
  cases e1 : pk (unfr r1) S2 with
  | none => rw [e1] at fin2; exact fin2.elim
  | some d1 =>
    cases e2 : pk (unfr r2) S2 with
    | none => rw [e1, e2] at fin2; exact fin2.elim
    | some d2 =>
      rw [e1, e2] at fin2
      simp only at fin2
      cases e3 : g d1 d2 with
      | none => rw [e3] at fin2; exact fin2.elim
      | some r =>
        rw [e3] at fin2
        exact og rep2' (pk_ok rep2' rw1' e1) (pk_ok rep2' rw2 e2) e3 fun v H' Hs' s' rep' rr' => fin2 H' Hs' (s2'.trans s') rep' v rr'
def OpD1 (K : PySem.W.Frag) (r1 : V → Hp → VK → Prop) (g : D → Option R) : Prop := ∀ {F : Hp} {B : List V} {Hs : Hp} {S : Env} {σ : St} {H : Hp} {d1 : D} {x : V} {r : R} {Q : VK},
  Rep K F B Hs S σ H → PV K Hs H d1 x → g d1 = some r → Got K F B Hs S σ r Q → r1 x H Q
theorem op1_ok {X : Cx} {W : WX} {C : Cc} {fa : Sm} {r1 : V → Hp → VK → Prop} {g : D → Option R} (og : OpD1 X.K r1 g) {σ : St} {H : Hp} {Q : VK} (h : Eof X W C (sOp1 g fa) σ H Q) :
    Eof X W C fa σ H fun x H1 => r1 x H1 Q := by
  obtain ⟨F, B, Hs, S, rep, fin⟩ := h
  refine eof_bind rep fin.to _ fun r1 S1 v1 H1 Hs1 s1 rep1 rr1 fin1 => ?_
  obtain ⟨Hs1', s1', rep1', rw1⟩ := unfr_ok rep1 rr1
  rw [← pk_unfr (r := r1)] at fin1
  cases e1 : pk (unfr r1) S1 with
  | none => rw [e1] at fin1; exact fin1.elim
  | some d1 =>
    rw [e1] at fin1
    simp only at fin1
    cases e3 : g d1 with
    | none => rw [e3] at fin1; exact fin1.elim
    | some r =>
      rw [e3] at fin1
      exact og rep1' (pk_ok rep1' rw1 e1) e3 fun v H' Hs' s' rep' rr' => fin1 H' Hs' (s1'.trans s') rep' v rr'

/-! ### names, constants -/
def sVar (i : Nat) : Sm := fun _ S => match S[i]? with
  | some (.val d) => .ok (.val d) S
  | some (.own _) => .ok (.sl i) S
  | some (.bor _) => .ok (.sl i) S
  | _ => .bad
def sC (d : D) : Sm := fun _ S => .ok (.val d) S
section
variable {X : Cx} {W : WX} {C : Cc}
theorem k_var {i : Nat} {x : Str} {pos : Pos} (hN : X.N[i]? = some x) (hv : Vis X.env.scope x) (hd : (x == ("__debug__" : Str)) = false) (hcd : (x == ("__classdict__" : Str)) = false) : PE X (.Name x pos) (Eof X W C (sVar i)) := by
  refine PE.wk (pe_var hN hv hd hcd) fun σ H Q ⟨F, B, Hs, S, rep, fin⟩ => ?_
  unfold sVar at fin
  cases q : S[i]? with
  | none => rw [q] at fin; exact fin.elim
  | some s =>
    rw [q] at fin
    cases s with
    | non => exact fin.elim
    | val d =>
      obtain ⟨v, z1, z2⟩ := rep.val i d q
      exact ⟨v, z1, fin v H Hs (.refl _) rep z2⟩
    | own d =>
      obtain ⟨a, o, z1, z2, z3, z4, z5⟩ := rep.own i _ d q rfl
      exact ⟨_, z1, fin _ H Hs (.refl _) rep ⟨z1, _, q, rfl⟩⟩
    | bor d =>
      obtain ⟨a, o, z1, z2, z3, z4, z5⟩ := rep.own i _ d q rfl
      exact ⟨_, z1, fin _ H Hs (.refl _) rep ⟨z1, _, q, rfl⟩⟩
theorem tC_ok {d : D} {v : V} (h : ∀ Hs, RV X.K Hs d v) {σ : St} {H : Hp} {Q : VK} (e : Eof X W C (sC d) σ H Q) : tC v σ H Q := by
  obtain ⟨F, B, Hs, S, rep, fin⟩ := e
  exact fin v H Hs (.refl _) rep (h Hs)
theorem k_int {i : Int} {j : Nat} {pos : Pos} : PE X (.Constant (.int i) j pos) (Eof X W C (sC (.int i))) := PE.wk pe_int fun _ _ _ => tC_ok fun _ => .int i
theorem k_bl {i : Bool} {j : Nat} {pos : Pos} : PE X (.Constant (.bool i) j pos) (Eof X W C (sC (.bl i))) := PE.wk pe_bl fun _ _ _ => tC_ok fun _ => .bl i
theorem k_non {j : Nat} {pos : Pos} : PE X (.Constant .none j pos) (Eof X W C (sC .non)) := PE.wk pe_non fun _ _ _ => tC_ok fun _ => .non
theorem k_str {x : Str} {j : Nat} {pos : Pos} : PE X (.Constant (.str x) j pos) (Eof X W C (sC (.str x))) := PE.wk pe_str fun _ _ _ => tC_ok fun _ => .str x
/-- a constant of the module -/
theorem k_glob {x : Str} {v : V} {u : Value} {d : D} {pos : Pos} (hg : Gl X x) (hm : X.mg x = some u) (r : RelV v u) (h : ∀ Hs, RV X.K Hs d v) (hd : (x == ("__debug__" : Str)) = false) : PE X (.Name x pos) (Eof X W C (sC d)) :=
  PE.wk (pe_glob hg hm r hd) fun _ _ _ => tC_ok h

/-! ### rows of expressions, all made data -/
def sFz (f : Sm) : Cc → Env → O D := fun C S => (f C S).bind fun r S1 => match freeze r S1 with
  | some (d, S2) => .ok d S2
  | none => .bad
def sNil : Sl := fun _ S => .ok [] S
def sCons (f : Sm) (g : Sl) : Sl := fun C S => (sFz f C S).bind fun d S1 => (g C S1).bind fun ds S2 => .ok (d :: ds) S2
def Lof (X : Cx) (W : WX) (C : Cc) (f : Sl) : TA := fun σ H Q => ∃ F B Hs S, Rep X.K F B Hs S σ H ∧ FinA X.K X.mg W F B Hs σ (fun ds S' Hs' H' => ∀ vs, RVs X.K Hs' ds vs → Q vs H') (f C S)
theorem O.bind_assoc {α β γ : Type} (x : O α) (f : α → Env → O β) (g : β → Env → O γ) : (x.bind f).bind g = x.bind fun a S => (f a S).bind g := by
  cases x <;> rfl
theorem k_nil : PA X [] (Lof X W C sNil) := PA.wk pa_nil fun σ H Q ⟨F, B, Hs, S, rep, fin⟩ => fin H Hs (.refl _) rep [] .nil
theorem k_cons {e : Expr} {es : List Expr} {f : Sm} {g : Sl} (he : PE X e (Eof X W C f)) (hs : PA X es (Lof X W C g)) (hst : starEach (e :: es) X.env = (false, eval e X.env) :: starEach es X.env) : PA X (e :: es) (Lof X W C (sCons f g)) := by
  refine PA.wk (pa_cons he hs hst) fun σ H Q ⟨F, B, Hs, S, rep, fin⟩ => ?_
  unfold sCons sFz at fin
  rw [O.bind_assoc] at fin
  refine eof_bind rep fin _ fun r S1 v H1 Hs1 s1 rep1 rr fin1 => ?_
  cases e1 : freeze r S1 with
  | none => rw [e1] at fin1; exact fin1.elim
  | some p =>
    obtain ⟨d, S2⟩ := p
    rw [e1] at fin1
    obtain ⟨Hs2, s2, rep2, rv⟩ := freeze_ok rep1 rr e1
    refine ⟨F, B, Hs2, S2, rep2, ?_⟩
    have fin2 := fin1.later s2
    have fin3 : FinA X.K X.mg W F B Hs2 σ _ ((g C S2).bind fun ds S3 => .ok (d :: ds) S3) := fin2
    cases e2 : g C S2 with
    | ok ds S3 =>
      rw [e2] at fin3
      exact fun H3 Hs3 s3 rep3 vs rvs => fin3 H3 Hs3 s3 rep3 (v :: vs) (.cons (rv.mono s3) rvs)
    | ex c ns ds S3 => rw [e2] at fin3; exact fin3
    | bad => rw [e2] at fin3; exact fin3.elim
/-- a tuple, a list -/
def sTup (f : Sl) : Sm := fun C S => (f C S).bind fun ds S1 => if ds.length ≤ 16777216 then .ok (.val (.tup ds)) S1 else .bad
def sLst (f : Sl) : Sm := fun C S => (f C S).bind fun ds S1 => if ds.length ≤ 16777216 then .ok (.fr (.lst ds)) S1 else .bad
theorem lof_bind {f : Sl} {F : Hp} {B : List V} {Hs : Hp} {S : Env} {σ : St} {H : Hp} {α : Type} {P : α → Env → Hp → Hp → Prop} {k : List D → Env → O α} (rep : Rep X.K F B Hs S σ H) (h : FinA X.K X.mg W F B Hs σ P ((f C S).bind k)) (Q1 : List V → Hp → Prop)
    (next : ∀ ds S1 vs H1 Hs1, Same Hs Hs1 → Rep X.K F B Hs1 S1 σ H1 → RVs X.K Hs1 ds vs → FinA X.K X.mg W F B Hs1 σ P (k ds S1) → Q1 vs H1) : Lof X W C f σ H Q1 := by
  refine ⟨F, B, Hs, S, rep, ?_⟩
  cases e : f C S with
  | ok r S1 =>
    rw [e] at h
    exact fun H1 Hs1 s1 rep1 v rr => next r S1 v H1 Hs1 s1 rep1 rr (FinA.later s1 h)
  | ex c ns ds S1 => rw [e] at h; exact h
  | bad => rw [e] at h; exact h
theorem line_le {n m : Nat} (h : n ≤ 16777216) (e : n = m) : m ≤ sizeLine := by rw [sizeLine_eq]; omega
theorem k_tup {es : List Expr} {f : Sl} {x1 : Nat} {pos : Pos} (h : PA X es (Lof X W C f)) : PE X (.Tuple es x1 pos) (Eof X W C (sTup f)) := by
  refine PE.wk (pe_tup h) fun σ H Q ⟨F, B, Hs, S, rep, fin⟩ => ?_
  refine lof_bind rep fin.to _ fun ds S1 vs H1 Hs1 s1 rep1 rv fin1 => ?_
  by_cases c : ds.length ≤ 16777216
  · rw [if_pos c] at fin1
    exact ⟨line_le c rv.length, fun p hp => Got.tup (F := F) (B := B) (Hs := Hs1) (S := S1) (σ := σ) (ds := ds) (fun v H' Hs' s' rep' rr' => fin1 H' Hs' s' rep' v rr') rep1 hp rv⟩
  · rw [if_neg c] at fin1; exact fin1.elim
theorem k_lst {es : List Expr} {f : Sl} {pos : Pos} (h : PA X es (Lof X W C f)) : PE X (.List es pos) (Eof X W C (sLst f)) := by
  refine PE.wk (pe_lst h) fun σ H Q ⟨F, B, Hs, S, rep, fin⟩ => ?_
  refine lof_bind rep fin.to _ fun ds S1 vs H1 Hs1 s1 rep1 rv fin1 => ?_
  by_cases c : ds.length ≤ 16777216
  · rw [if_pos c] at fin1
    exact ⟨line_le c rv.length, fun p hp => Got.fr (F := F) (B := B) (Hs := Hs1) (S := S1) (σ := σ) (d := .lst ds) (fun v H' Hs' s' rep' rr' => fin1 H' Hs' s' rep' v rr') rep1 hp (.lst rv)⟩
  · rw [if_neg c] at fin1; exact fin1.elim
end
end Kn

/-! Kn3 -/
/-! Kn part 3: operators on data. -/
namespace Kn
open PySem PySem.Spec PyProof.Rows L2

theorem OpR.or3 {X : Cx} {f : Value → Value → Sem Value} {r r' r'' : R2} (h : OpR X f r) (h' : OpR X f r') (h'' : OpR X f r'') : OpR X f (fun x y H Q => r x y H Q ∨ r' x y H Q ∨ r'' x y H Q) := OpR.or h (OpR.or h' h'')

/-! ### list + list of read lists -/
theorem Inv.rdL {X : Cx} {pins : List (Addr × Obj)} {σ : St} {H : Hp} {s : Shared} {l : Addr} {xs : List V} (I : Inv X pins σ H s) (hH : Rd H l (.lst xs)) : xs.length ≤ sizeLine ∧ ∃ (its : List Value) (n : Nat), Vals xs its ∧ xs.length = its.length ∧ s.heap.get? l = some { cls := .type "list", data := .seq its.toArray n } := by
  obtain ⟨z, its, n, r, e⟩ := hH.ok I.hok
  exact ⟨z, its, n, r, r.length, e⟩
def rCatL : R2 := fun x y H Q => ∃ l b xs zs, x = .ref l ∧ y = .ref b ∧ Rd H l (.lst xs) ∧ Rd H b (.lst zs) ∧ xs.length + zs.length ≤ sizeLine ∧ ∀ p, H p = none → Q (.ref p) (upd H p (.lst (xs ++ zs)))
theorem op_catL {X : Cx} : OpR X (binaryOp .Add) rCatL := by
  intro pins s σ H x y v u Q I rx ry h
  obtain ⟨l, b, xs, zs, rfl, rfl, hH, hB, hz, q⟩ := h
  cases rx
  cases ry
  obtain ⟨z, its, n, r, hl, e⟩ := Inv.rdL I hH
  obtain ⟨z2, its2, n2, r2, hl2, e2⟩ := Inv.rdL I hB
  refine PySem.P.add_list e e2 ?_ (by rw [List.size_toArray, List.size_toArray]; omega)
  have ea : its.toArray ++ its2.toArray = (its ++ its2).toArray := by simp
  rw [ea]
  exact ⟨.ref _, _, I.lnew (t' := s.toks) (r.append r2) (by rw [List.length_append]; omega), rfl, q _ I.fresh⟩

/-! ### what the operators give -/
def gAdd : D → D → Option R
  | .int a, .int b => some (.val (.int (a + b)))
  | .str a, .str b => if a.length + b.length ≤ 16777216 then some (.val (.str (a ++ b))) else none
  | .lst a, .lst b => if a.length + b.length ≤ 16777216 then some (.fr (.lst (a ++ b))) else none
  | .tup a, .tup b => if a.length + b.length ≤ 16777216 then some (.val (.tup (a ++ b))) else none
  | _, _ => none
def gSub : D → D → Option R
  | .int a, .int b => some (.val (.int (a - b)))
  | _, _ => none
def gMul : D → D → Option R
  | .int a, .int b => if a.natAbs < 2 ^ 64 ∨ b.natAbs < 2 ^ 64 ∨ a.natAbs.log2 + b.natAbs.log2 < 1000000 then some (.val (.int (a * b))) else none
  | .str z, .int n => if 2 ≤ n ∧ n ≤ 1000 ∧ 1 ≤ z.length ∧ z.length ≤ 1000 then some (.val (.str (repT z n.toNat))) else none
  | _, _ => none
def gDiv : D → D → Option R
  | .int a, .int b => if 0 < b ∧ b.natAbs.log2 < 9000 then some (.val (.int (a / b))) else none
  | _, _ => none
def gMod : D → D → Option R
  | .int a, .int b => if 0 < b then some (.val (.int (a % b))) else none
  | _, _ => none
def gPow : D → D → Option R
  | .int a, .int b => if 0 ≤ b ∧ b ≤ 1000000 ∧ a.natAbs < 2 ^ 64 then some (.val (.int (a ^ b.toNat))) else none
  | _, _ => none
def gNeg : D → Option R
  | .int a => some (.val (.int (-a)))
  | _ => none
def gLt : D → D → Option R
  | .int a, .int b => some (.val (.bl (decide (a < b))))
  | _, _ => none
def gLe : D → D → Option R
  | .int a, .int b => some (.val (.bl (decide (a ≤ b))))
  | _, _ => none
def gGt : D → D → Option R
  | .int a, .int b => some (.val (.bl (decide (b < a))))
  | _, _ => none
def gGe : D → D → Option R
  | .int a, .int b => some (.val (.bl (decide (b ≤ a))))
  | _, _ => none

section
variable {X : Cx}
def rAddAll (K : PySem.W.Frag) : R2 := fun x y H Q => rI0 (fun i j => .int (i + j)) x y H Q ∨ (∃ i j, x = .str i ∧ y = .str j ∧ i.length + j.length ≤ sizeLine ∧ Q (.str (i ++ j)) H) ∨ rCatL x y H Q ∨ rCatA K x y H Q
theorem op_addAll : OpR X (binaryOp .Add) (rAddAll X.K) := OpR.or op_add (OpR.or op_add_str (OpR.or op_catL op_catA))
theorem RVs.nil_iff {K : PySem.W.Frag} {H : Hp} {ds : List D} {vs : List V} (r : RVs K H ds vs) : vs = [] ↔ ds = [] := by
  cases r with
  | nil => simp
  | cons _ _ => simp
theorem gAdd_ok {K : PySem.W.Frag} : OpD K (rAddAll K) gAdd := by
  intro F B Hs S σ H d1 d2 x y r Q rep p1 p2 e g
  unfold gAdd at e
  split at e
  · rename_i a b
    cases e
    obtain rfl := p1.int
    obtain rfl := p2.int
    exact .inl ⟨a, b, rfl, rfl, g.val rep (.int _)⟩
  · rename_i a b
    split at e
    · rename_i hz
      cases e
      obtain rfl := p1.str
      obtain rfl := p2.str
      exact .inr (.inl ⟨a, b, rfl, rfl, by rw [sizeLine_eq]; exact hz, g.val rep (.str _)⟩)
    · cases e
  · rename_i a b
    split at e
    · rename_i hz
      cases e
      obtain ⟨l, xs, rfl, h1, r1⟩ := p1.lst rep
      obtain ⟨m, ys, rfl, h2, r2⟩ := p2.lst rep
      exact .inr (.inr (.inl ⟨l, m, xs, ys, rfl, rfl, h1, h2, by rw [sizeLine_eq, ← r1.length, ← r2.length]; exact hz, fun p hp => g.fr rep hp (.lst (r1.append r2))⟩))
    · cases e
  · rename_i a b
    split at e
    · rename_i hz
      cases e
      obtain ⟨l, xs, rfl, h1, h1', r1⟩ := p1.tup rep
      obtain ⟨m, ys, rfl, h2, h2', r2⟩ := p2.tup rep
      refine .inr (.inr (.inr ⟨l, m, xs, ys, rfl, rfl, h1, h2, by rw [sizeLine_eq, ← r1.length, ← r2.length]; exact hz, fun z => ?_, fun z z2 => ?_, fun _ _ p hp => g.tup rep hp (r1.append r2)⟩))
      · rw [(RVs.nil_iff r1).mp z] at g
        exact g.val rep (.tup h2' r2)
      · rw [(RVs.nil_iff r2).mp z2, List.append_nil] at g
        exact g.val rep (.tup h1' r1)
    · cases e
  · cases e
theorem gSub_ok {K : PySem.W.Frag} : OpD K (rI0 fun i j => .int (i - j)) gSub := by
  intro F B Hs S σ H d1 d2 x y r Q rep p1 p2 e g
  unfold gSub at e
  split at e
  · rename_i a b
    cases e
    obtain rfl := p1.int
    obtain rfl := p2.int
    exact ⟨a, b, rfl, rfl, g.val rep (.int _)⟩
  · cases e
def CMulA (i j : Int) : Prop := CMul i j ∨ CMulW i j
theorem op_mulA : OpR X (binaryOp .Mult) (rI CMulA fun i j => .int (i * j)) := opI fun i j t u s Q E hc q => by
  rcases hc with hc | hc
  · exact mul_int q hc.ok
  · exact mul_int q hc.ok
def rMulAll : R2 := fun x y H Q => (rI CMulA fun i j => .int (i * j)) x y H Q ∨ ∃ z i, x = .str z ∧ y = .int i ∧ 2 ≤ i ∧ i ≤ 1000 ∧ 1 ≤ z.length ∧ z.length ≤ 1000 ∧ Q (.str (repT z i.toNat)) H
theorem op_mulAll : OpR X (binaryOp .Mult) rMulAll := OpR.or op_mulA op_mul_str
theorem gMul_ok {K : PySem.W.Frag} : OpD K rMulAll gMul := by
  intro F B Hs S σ H d1 d2 x y r Q rep p1 p2 e g
  unfold gMul at e
  split at e
  · rename_i a b
    split at e
    · rename_i hc
      cases e
      obtain rfl := p1.int
      obtain rfl := p2.int
      refine .inl ⟨a, b, rfl, rfl, ?_, g.val rep (.int _)⟩
      rcases hc with h | h | h
      · exact .inl (.inl ⟨by omega, by omega⟩)
      · exact .inl (.inr ⟨by omega, by omega⟩)
      · exact .inr h
    · cases e
  · split at e
    · rename_i hc
      cases e
      obtain rfl := p1.str
      obtain rfl := p2.int
      exact .inr ⟨_, _, rfl, rfl, hc.1, hc.2.1, hc.2.2.1, hc.2.2.2, g.val rep (.str _)⟩
    · cases e
  · cases e
theorem gDiv_ok {K : PySem.W.Frag} : OpD K (rI CDivW fun i j => .int (i / j)) gDiv := by
  intro F B Hs S σ H d1 d2 x y r Q rep p1 p2 e g
  unfold gDiv at e
  split at e
  · rename_i a b
    split at e
    · rename_i hc
      cases e
      obtain rfl := p1.int
      obtain rfl := p2.int
      exact ⟨a, b, rfl, rfl, hc, g.val rep (.int _)⟩
    · cases e
  · cases e
theorem gMod_ok {K : PySem.W.Frag} : OpD K (rI (fun _ j => 0 < j) fun i j => .int (i % j)) gMod := by
  intro F B Hs S σ H d1 d2 x y r Q rep p1 p2 e g
  unfold gMod at e
  split at e
  · rename_i a b
    split at e
    · rename_i hc
      cases e
      obtain rfl := p1.int
      obtain rfl := p2.int
      exact ⟨a, b, rfl, rfl, hc, g.val rep (.int _)⟩
    · cases e
  · cases e
theorem gPow_ok {K : PySem.W.Frag} : OpD K (rI CPow fun i j => .int (i ^ j.toNat)) gPow := by
  intro F B Hs S σ H d1 d2 x y r Q rep p1 p2 e g
  unfold gPow at e
  split at e
  · rename_i a b
    split at e
    · rename_i hc
      cases e
      obtain rfl := p1.int
      obtain rfl := p2.int
      exact ⟨a, b, rfl, rfl, hc, g.val rep (.int _)⟩
    · cases e
  · cases e
theorem gNeg_ok {K : PySem.W.Frag} : OpD1 K (rU fun i => .int (-i)) gNeg := by
  intro F B Hs S σ H d1 x r Q rep p1 e g
  unfold gNeg at e
  split at e
  · rename_i a
    cases e
    obtain rfl := p1.int
    exact ⟨a, rfl, g.val rep (.int _)⟩
  · cases e
theorem gLt_ok {K : PySem.W.Frag} : OpD K (rI0 fun i j => .bl (decide (i < j))) gLt := by
  intro F B Hs S σ H d1 d2 x y r Q rep p1 p2 e g
  unfold gLt at e
  split at e
  · rename_i a b
    cases e
    obtain rfl := p1.int
    obtain rfl := p2.int
    exact ⟨a, b, rfl, rfl, g.val rep (.bl _)⟩
  · cases e
theorem gLe_ok {K : PySem.W.Frag} : OpD K (rI0 fun i j => .bl (decide (i ≤ j))) gLe := by
  intro F B Hs S σ H d1 d2 x y r Q rep p1 p2 e g
  unfold gLe at e
  split at e
  · rename_i a b
    cases e
    obtain rfl := p1.int
    obtain rfl := p2.int
    exact ⟨a, b, rfl, rfl, g.val rep (.bl _)⟩
  · cases e
theorem gGt_ok {K : PySem.W.Frag} : OpD K (rI0 fun i j => .bl (decide (j < i))) gGt := by
  intro F B Hs S σ H d1 d2 x y r Q rep p1 p2 e g
  unfold gGt at e
  split at e
  · rename_i a b
    cases e
    obtain rfl := p1.int
    obtain rfl := p2.int
    exact ⟨a, b, rfl, rfl, g.val rep (.bl _)⟩
  · cases e
theorem gGe_ok {K : PySem.W.Frag} : OpD K (rI0 fun i j => .bl (decide (j ≤ i))) gGe := by
  intro F B Hs S σ H d1 d2 x y r Q rep p1 p2 e g
  unfold gGe at e
  split at e
  · rename_i a b
    cases e
    obtain rfl := p1.int
    obtain rfl := p2.int
    exact ⟨a, b, rfl, rfl, g.val rep (.bl _)⟩
  · cases e
end

/-! ### == of data -/
mutual
def py : D → Option PyData
  | .non => some .none
  | .bl b => some (.bool b)
  | .int i => some (.int i)
  | .str x => some (.str x)
  | .lst xs => (pys xs).map .list
  | .tup xs => (pys xs).map .tuple
  | _ => none
def pys : List D → Option (List PyData)
  | [] => some []
  | d :: ds => (py d).bind fun p => (pys ds).map (p :: ·)
end
mutual
def eqD : D → D → Bool
  | .non, .non => true
  | .bl a, .bl b => a == b
  | .bl a, .int j => (if a then 1 else 0) == j
  | .int i, .bl b => i == (if b then 1 else 0)
  | .int i, .int j => i == j
  | .str x, .str y => x == y
  | .lst xs, .lst ys => eqDs xs ys
  | .tup xs, .tup ys => eqDs xs ys
  | _, _ => false
def eqDs : List D → List D → Bool
  | [], [] => true
  | x :: xs, y :: ys => eqD x y && eqDs xs ys
  | _, _ => false
end
mutual
def dep : D → Nat
  | .lst xs => deps xs + 1
  | .tup xs => deps xs + 1
  | _ => 0
def deps : List D → Nat
  | [] => 0
  | d :: ds => max (dep d) (deps ds)
end
mutual
/-- data that == takes: no dicts, no instances; texts of right signs -/
def cln : D → Bool
  | .non => true
  | .bl _ => true
  | .int _ => true
  | .str x => PyData.strOk x
  | .lst xs => clns xs
  | .tup xs => clns xs
  | _ => false
def clns : List D → Bool
  | [] => true
  | d :: ds => cln d && clns ds
end
def okD (d : D) : Bool := cln d && decide (dep d ≤ 64)
mutual
theorem cln_py : ∀ d : D, cln d = true → ∃ p, py d = some p ∧ PyData.canLay0 p = true ∧ p.depth = dep d
  | .non, _ => ⟨_, rfl, rfl, rfl⟩
  | .bl _, _ => ⟨_, rfl, rfl, rfl⟩
  | .int _, _ => ⟨_, rfl, rfl, rfl⟩
  | .str x, h => ⟨_, rfl, h, rfl⟩
  | .lst xs, h => by
    obtain ⟨ps, e, h1, h2⟩ := clns_py xs (by simpa [cln] using h)
    refine ⟨.list ps, by simp [py, e], by simpa [PyData.canLay0] using h1, by simp [PyData.depth, dep, h2]⟩
  | .tup xs, h => by
    obtain ⟨ps, e, h1, h2⟩ := clns_py xs (by simpa [cln] using h)
    refine ⟨.tuple ps, by simp [py, e], by simpa [PyData.canLay0] using h1, by simp [PyData.depth, dep, h2]⟩
  | .scr _, h => by simp [cln] at h
  | .dct _ _, h => by simp [cln] at h
  | .ins _ _ _, h => by simp [cln] at h
theorem clns_py : ∀ ds : List D, clns ds = true → ∃ ps, pys ds = some ps ∧ PyData.canLayAll0 ps = true ∧ PyData.depthAll ps = deps ds
  | [], _ => ⟨[], rfl, rfl, rfl⟩
  | d :: ds, h => by
    have h' : cln d = true ∧ clns ds = true := by simpa [clns] using h
    obtain ⟨p, e, h1, h2⟩ := cln_py d h'.1
    obtain ⟨ps, e', h1', h2'⟩ := clns_py ds h'.2
    refine ⟨p :: ps, by simp [pys, e, e'], by simp [PyData.canLayAll0, h1, h1'], by simp [PyData.depthAll, deps, h2, h2']⟩
end
mutual
theorem eqv_eqD : ∀ (d e : D) (p q : PyData), py d = some p → py e = some q → PyData.eqv p q = eqD d e
  | .non, e, p, q, h1, h2 => by
    cases h1
    cases e <;> simp [py] at h2 <;> (try (obtain ⟨_, _, rfl⟩ := h2)) <;> (try subst h2) <;> simp [PyData.eqv, eqD]
  | .bl a, e, p, q, h1, h2 => by
    cases h1
    cases e <;> simp [py] at h2 <;> (try (obtain ⟨_, _, rfl⟩ := h2)) <;> (try subst h2) <;> simp [PyData.eqv, eqD]
  | .int a, e, p, q, h1, h2 => by
    cases h1
    cases e <;> simp [py] at h2 <;> (try (obtain ⟨_, _, rfl⟩ := h2)) <;> (try subst h2) <;> simp [PyData.eqv, eqD]
  | .str a, e, p, q, h1, h2 => by
    cases h1
    cases e <;> simp [py] at h2 <;> (try (obtain ⟨_, _, rfl⟩ := h2)) <;> (try subst h2) <;> simp [PyData.eqv, eqD]
  | .lst xs, e, p, q, h1, h2 => by
    simp [py] at h1
    obtain ⟨ps, e1, rfl⟩ := h1
    cases e with
    | lst ys =>
      simp [py] at h2
      obtain ⟨qs, e2, rfl⟩ := h2
      simp only [PyData.eqv, eqD]
      exact eqv_eqDs xs ys ps qs e1 e2
    | _ => simp [py] at h2 <;> (try (obtain ⟨_, _, rfl⟩ := h2)) <;> (try subst h2) <;> simp [PyData.eqv, eqD]
  | .tup xs, e, p, q, h1, h2 => by
    simp [py] at h1
    obtain ⟨ps, e1, rfl⟩ := h1
    cases e with
    | tup ys =>
      simp [py] at h2
      obtain ⟨qs, e2, rfl⟩ := h2
      simp only [PyData.eqv, eqD]
      exact eqv_eqDs xs ys ps qs e1 e2
    | _ => simp [py] at h2 <;> (try (obtain ⟨_, _, rfl⟩ := h2)) <;> (try subst h2) <;> simp [PyData.eqv, eqD]
  | .scr _, e, p, q, h1, h2 => by simp [py] at h1
  | .dct _ _, e, p, q, h1, h2 => by simp [py] at h1
  | .ins _ _ _, e, p, q, h1, h2 => by simp [py] at h1
theorem eqv_eqDs : ∀ (ds es : List D) (ps qs : List PyData), pys ds = some ps → pys es = some qs → PyData.eqvAll ps qs = eqDs ds es
  | [], es, ps, qs, h1, h2 => by
    cases h1
    cases es with
    | nil => cases h2; simp [PyData.eqvAll, eqDs]
    | cons e es =>
      simp only [pys, Option.bind_eq_some_iff, Option.map_eq_some_iff] at h2
      obtain ⟨q, _, qs', _, rfl⟩ := h2
      simp [PyData.eqvAll, eqDs]
  | d :: ds, es, ps, qs, h1, h2 => by
    simp only [pys, Option.bind_eq_some_iff, Option.map_eq_some_iff] at h1
    obtain ⟨p, e1, ps', e2, rfl⟩ := h1
    cases es with
    | nil => cases h2; simp [PyData.eqvAll, eqDs]
    | cons e es =>
      simp only [pys, Option.bind_eq_some_iff, Option.map_eq_some_iff] at h2
      obtain ⟨q, e3, qs', e4, rfl⟩ := h2
      simp only [PyData.eqvAll, eqDs]
      rw [eqv_eqD d e p q e1 e3, eqv_eqDs ds es ps' qs' e2 e4]
end
mutual
theorem dp_of {K : PySem.W.Frag} {H : Hp} : ∀ {d : D} {v : V}, RV K H d v → ∀ p, py d = some p → Dp K H v p
  | _, _, .non, p, e => by cases e; exact .non
  | _, _, .bl b, p, e => by cases e; exact .bl b
  | _, _, .int i, p, e => by cases e; exact .int i
  | _, _, .str x, p, e => by cases e; exact .str x
  | _, _, .lst h r, p, e => by
    simp [py] at e
    obtain ⟨ps, e1, rfl⟩ := e
    exact .lst (SqL.of h) (dps_of r ps e1)
  | _, _, .tup h r, p, e => by
    simp [py] at e
    obtain ⟨ps, e1, rfl⟩ := e
    exact .tup h (dps_of r ps e1)
  | _, _, .scr h r, p, e => by simp [py] at e
  | _, _, .dct h _ r, p, e => by simp [py] at e
theorem dps_of {K : PySem.W.Frag} {H : Hp} : ∀ {ds : List D} {vs : List V}, RVs K H ds vs → ∀ ps, pys ds = some ps → DpAll K H vs ps
  | _, _, .nil, p, e => by cases e; exact .nil
  | _, _, .cons r t, p, e => by
    simp only [pys, Option.bind_eq_some_iff, Option.map_eq_some_iff] at e
    obtain ⟨q, e3, qs', e4, rfl⟩ := e
    exact .cons (dp_of r q e3) (dps_of t qs' e4)
end
def gEq (d e : D) : Option R := if okD d = true ∧ okD e = true then some (.val (.bl (eqD d e))) else none
def gNe (d e : D) : Option R := if okD d = true ∧ okD e = true then some (.val (.bl (!eqD d e))) else none
theorem okD_py {d : D} (h : okD d = true) : ∃ p, py d = some p ∧ SeqAt.shaped p = true := by
  have h' : cln d = true ∧ dep d ≤ 64 := by simpa [okD] using h
  obtain ⟨p, e, h1, h2⟩ := cln_py d h'.1
  refine ⟨p, e, ?_⟩
  unfold SeqAt.shaped
  rw [h1, h2, decide_eq_true h'.2] <;> rfl
theorem gEq_ok {K : PySem.W.Frag} : OpD K (rEqD K) gEq := by
  intro F B Hs S σ H d1 d2 x y r Q rep p1 p2 e g
  unfold gEq at e
  split at e
  · rename_i hc
    cases e
    obtain ⟨p, e1, h1⟩ := okD_py hc.1
    obtain ⟨q, e2, h2⟩ := okD_py hc.2
    refine ⟨p, q, dp_of (p1.rv rep) p e1, dp_of (p2.rv rep) q e2, h1, h2, ?_⟩
    rw [eqv_eqD _ _ _ _ e1 e2]
    exact g.val rep (.bl _)
  · cases e
theorem gNe_ok {K : PySem.W.Frag} : OpD K (rNeD K) gNe := by
  intro F B Hs S σ H d1 d2 x y r Q rep p1 p2 e g
  unfold gNe at e
  split at e
  · rename_i hc
    cases e
    obtain ⟨p, e1, h1⟩ := okD_py hc.1
    obtain ⟨q, e2, h2⟩ := okD_py hc.2
    refine ⟨p, q, dp_of (p1.rv rep) p e1, dp_of (p2.rv rep) q e2, h1, h2, ?_⟩
    rw [eqv_eqD _ _ _ _ e1 e2]
    exact g.val rep (.bl _)
  · cases e
end Kn

/-! Kn4 -/
/-! Kn part 4: in, is None, subscripts, slices, tests. -/
namespace Kn
open PySem PySem.Spec PyProof.Rows L2

/-! ### in -/
def flat : D → Bool
  | .non => true
  | .bl _ => true
  | .int _ => true
  | .str _ => true
  | _ => false
def keyD : D → Option Key
  | .int i => some (.inl i)
  | .str x => some (.inr x)
  | _ => none
def inS (i z : Str) : Bool := !(Builtin.Str.occurrences z i 0 z.length 1).isEmpty
def hasIn : D → D → Option Bool
  | d, .lst ds => if flat d = true ∧ ds.all flat = true then some (ds.any fun y => eqD y d) else none
  | d, .tup ds => if flat d = true ∧ ds.all flat = true then some (ds.any fun y => eqD y d) else none
  | .str i, .str z => some (inS i z)
  | d, .dct ks _ => (keyD d).map fun k => ks.any fun j => decide (j = k)
  | _, _ => none
def gIn (d e : D) : Option R := (hasIn d e).map fun b => .val (.bl b)
def gNotIn (d e : D) : Option R := (hasIn d e).map fun b => .val (.bl (!b))
section
variable {K : PySem.W.Frag} {F : Hp} {B : List V} {Hs Hs' : Hp} {S S' : Env} {σ : St} {H H' : Hp} {r : R} {v : V} {d : D} {Q : VK}
theorem flat_rv (f : flat d = true) (h : RV K H d v) : flatV v = true := by
  cases h <;> first | rfl | simp [flat] at f
theorem flat_eq {d e : D} {v u : V} (f : flat d = true) (f' : flat e = true) (h : RV K H d v) (h' : RV K H e u) : eqV v u = eqD d e := by
  cases h <;> first | (simp [flat] at f; done) | (cases h' <;> first | rfl | (simp [flat] at f'; done) | simp [eqV, eqD])
theorem flats_rv : ∀ {ds : List D} {vs : List V}, ds.all flat = true → RVs K H ds vs → vs.all flatV = true
  | _, _, _, .nil => rfl
  | _, _, f, .cons r t => by
    simp only [List.all_cons, Bool.and_eq_true] at f ⊢
    exact ⟨flat_rv f.1 r, flats_rv f.2 t⟩
theorem any_eq {u : V} (f : flat d = true) (h : RV K H d u) : ∀ {ds : List D} {vs : List V}, ds.all flat = true → RVs K H ds vs → inV u vs = ds.any fun y => eqD y d
  | _, _, _, .nil => rfl
  | _, _, fs, .cons r t => by
    simp only [List.all_cons, Bool.and_eq_true] at fs
    have ih := any_eq f h fs.2 t
    unfold inV at ih ⊢
    rw [List.any_cons, List.any_cons, ih, flat_eq fs.1 f r h]
theorem PV.dct (rep : Rep K F B Hs S σ H) {ks : List Key} {ds : List D} (h : PV K Hs H (.dct ks ds) v) : ∃ a kvs, v = .ref a ∧ Rd H a (.dK kvs) ∧ ks = kvs.map (·.1) ∧ RVs K Hs ds (kvs.map (·.2)) := by
  rcases h with h | ⟨a, o, rfl, e, n⟩
  · cases h with
    | dct h1 h2 h3 => exact ⟨_, _, rfl, rd_same rep.sub h1, h2, h3⟩
  · cases n with
    | dct h2 h3 => exact ⟨_, _, rfl, .inl e, h2, h3⟩
theorem keyD_rv {k : Key} (e : keyD d = some k) (h : RV K H d v) : v = kV k := by
  cases h <;> simp [keyD] at e <;> subst e <;> rfl
def rInK : R2 := fun y x H Q => ∃ a o, x = .ref a ∧ DGet H a y o ∧ Q (.bl o.isSome) H
def rNotInK : R2 := fun y x H Q => ∃ a o, x = .ref a ∧ DGet H a y o ∧ Q (.bl (!o.isSome)) H
def rInAll (K : PySem.W.Frag) : R2 := fun x y H Q => rIn K false x y H Q ∨ (∃ i j, x = .str i ∧ y = .str j ∧ Q (.bl (!(Builtin.Str.occurrences j i 0 j.length 1).isEmpty)) H) ∨ rInK x y H Q
def rNotInAll (K : PySem.W.Frag) : R2 := fun x y H Q => rIn K true x y H Q ∨ (∃ i j, x = .str i ∧ y = .str j ∧ Q (.bl (!(!(Builtin.Str.occurrences j i 0 j.length 1).isEmpty))) H) ∨ rNotInK x y H Q
theorem op_inK {X : Cx} (hu : X.A.units + 1 < cLine) : OpR X (compareOp .In) rInK := by
  intro pins s σ H x y v u Q I rx ry h
  obtain ⟨a, o, rfl, g, q⟩ := h
  cases ry
  exact d_in hu I g rx fun s3 I3 => ⟨.bl o.isSome, H, I3, rfl, q⟩
theorem op_notInK {X : Cx} (hu : X.A.units + 1 < cLine) : OpR X (compareOp .NotIn) rNotInK := by
  intro pins s σ H x y v u Q I rx ry h
  obtain ⟨a, o, rfl, g, q⟩ := h
  cases ry
  exact d_notIn hu I g rx fun s3 I3 => ⟨.bl (!o.isSome), H, I3, rfl, q⟩
theorem op_inAll {X : Cx} (hu : X.A.units + 1 < cLine) : OpR X (compareOp .In) (rInAll X.K) := OpR.or op_in_seq (OpR.or op_in_str (op_inK hu))
theorem op_notInAll {X : Cx} (hu : X.A.units + 1 < cLine) : OpR X (compareOp .NotIn) (rNotInAll X.K) := OpR.or op_notIn_seq (OpR.or op_notin_str (op_notInK hu))
theorem dget_any {kvs : List (Key × V)} {ks : List Key} (e : ks = kvs.map (·.1)) (k : Key) : (ks.any fun j => decide (j = k)) = (valV kvs k).isSome := by
  subst e
  rw [← valV_any, List.any_map]
  rfl
theorem hasIn_ok {x y : V} {d e : D} {b : Bool} (rep : Rep K F B Hs S σ H) (p1 : PV K Hs H d x) (p2 : PV K Hs H e y) (h : hasIn d e = some b) :
    ((∃ p xs, y = .ref p ∧ (SqL K H p xs ∨ SqT K H p xs) ∧ flatV x = true ∧ xs.all flatV = true ∧ inV x xs = b) ∨ (∃ i j, x = .str i ∧ y = .str j ∧ (!(Builtin.Str.occurrences j i 0 j.length 1).isEmpty) = b) ∨ ∃ a o, y = .ref a ∧ DGet H a x o ∧ o.isSome = b) := by
  unfold hasIn at h
  split at h
  · split at h
    · rename_i ds hc
      cases h
      obtain ⟨a, vs, rfl, h1, r1⟩ := p2.lst rep
      have r1' := r1.mono rep.sub
      exact .inl ⟨a, vs, rfl, .inl (.inl h1), flat_rv hc.1 (p1.rv rep), flats_rv hc.2 r1', any_eq hc.1 (p1.rv rep) hc.2 r1'⟩
    · cases h
  · split at h
    · rename_i ds hc
      cases h
      obtain ⟨a, vs, rfl, h1, h1', r1⟩ := p2.tup rep
      have r1' := r1.mono rep.sub
      exact .inl ⟨a, vs, rfl, .inr h1, flat_rv hc.1 (p1.rv rep), flats_rv hc.2 r1', any_eq hc.1 (p1.rv rep) hc.2 r1'⟩
    · cases h
  · cases h
    obtain rfl := p1.str
    obtain rfl := p2.str
    exact .inr (.inl ⟨_, _, rfl, rfl, rfl⟩)
  · rename_i ks ds
    simp only [Option.map_eq_some_iff] at h
    obtain ⟨k, hk, rfl⟩ := h
    obtain ⟨a, kvs, rfl, h1, h2, h3⟩ := p2.dct rep
    obtain rfl := keyD_rv hk (p1.rv rep)
    exact .inr (.inr ⟨a, valV kvs k, rfl, .inl ⟨kvs, k, h1, rfl, rfl⟩, (dget_any h2 k).symm⟩)
  · cases h
theorem gIn_ok {K : PySem.W.Frag} : OpD K (rInAll K) gIn := by
  intro F B Hs S σ H d1 d2 x y r Q rep p1 p2 e g
  unfold gIn at e
  simp only [Option.map_eq_some_iff] at e
  obtain ⟨b, hb, rfl⟩ := e
  have q := g.val rep (.bl _)
  rcases hasIn_ok rep p1 p2 hb with ⟨p, xs, z1, z2, z3, z4, z5⟩ | ⟨i, j, z1, z2, z3⟩ | ⟨a, o, z1, z2, z3⟩
  · exact .inl ⟨p, xs, z1, z2, z3, z4, by rw [if_neg Bool.false_ne_true, z5]; exact q⟩
  · exact .inr (.inl ⟨i, j, z1, z2, by rw [z3]; exact q⟩)
  · exact .inr (.inr ⟨a, o, z1, z2, by rw [z3]; exact q⟩)
theorem gNotIn_ok {K : PySem.W.Frag} : OpD K (rNotInAll K) gNotIn := by
  intro F B Hs S σ H d1 d2 x y r Q rep p1 p2 e g
  unfold gNotIn at e
  simp only [Option.map_eq_some_iff] at e
  obtain ⟨b, hb, rfl⟩ := e
  have q := g.val rep (.bl _)
  rcases hasIn_ok rep p1 p2 hb with ⟨p, xs, z1, z2, z3, z4, z5⟩ | ⟨i, j, z1, z2, z3⟩ | ⟨a, o, z1, z2, z3⟩
  · exact .inl ⟨p, xs, z1, z2, z3, z4, by rw [if_pos rfl, z5]; exact q⟩
  · exact .inr (.inl ⟨i, j, z1, z2, by rw [z3]; exact q⟩)
  · exact .inr (.inr ⟨a, o, z1, z2, by rw [z3]; exact q⟩)
end

/-! ### is None -/
def isN : D → Bool
  | .non => true
  | _ => false
def gIsN (d e : D) : Option R := if isN e = true then some (.val (.bl (isN d))) else none
def gNotN (d e : D) : Option R := if isN e = true then some (.val (.bl (!isN d))) else none
section
variable {K : PySem.W.Frag}
theorem isN_rv {H : Hp} {d : D} {v : V} (h : RV K H d v) : isN d = decide (v = .non) := by cases h <;> simp [isN]
theorem gIsN_ok : OpD K (fun x y H Q => y = .non ∧ Q (.bl (decide (x = .non))) H) gIsN := by
  intro F B Hs S σ H d1 d2 x y r Q rep p1 p2 e g
  unfold gIsN at e
  split at e
  · rename_i hc
    cases e
    have h1 := isN_rv (p1.rv rep)
    have h2 := isN_rv (p2.rv rep)
    rw [hc] at h2
    refine ⟨of_decide_eq_true h2.symm, ?_⟩
    rw [← h1]
    exact g.val rep (.bl _)
  · cases e
theorem gNotN_ok : OpD K (fun x y H Q => y = .non ∧ Q (.bl (!decide (x = .non))) H) gNotN := by
  intro F B Hs S σ H d1 d2 x y r Q rep p1 p2 e g
  unfold gNotN at e
  split at e
  · rename_i hc
    cases e
    have h1 := isN_rv (p1.rv rep)
    have h2 := isN_rv (p2.rv rep)
    rw [hc] at h2
    refine ⟨of_decide_eq_true h2.symm, ?_⟩
    rw [← h1]
    exact g.val rep (.bl _)
  · cases e
end

/-! ### subscripts -/
def dGet : List Key → List D → Key → Option D
  | j :: ks, d :: ds, k => if j = k then some d else dGet ks ds k
  | _, _, _ => none
def gIdx : D → D → Option R
  | .lst ds, .int i => (atI ds i).map .val
  | .tup ds, .int i => (atI ds i).map .val
  | .scr ds, .int i => (atI ds i).map .val
  | .str z, .int i => if z.length ≤ 16777216 then (atI z.cps.toList i).map fun c => .val (.str ⟨#[c]⟩) else none
  | .dct ks ds, e => (keyD e).bind fun k => (dGet ks ds k).map .val
  | _, _ => none
def rIdxK : R2 := fun x y H Q => ∃ a v, x = .ref a ∧ DGet H a y (some v) ∧ Q v H
def rIdxAll (K : PySem.W.Frag) : R2 := fun x y H Q => (((rIxL (K) x y H Q ∨ rIxT K x y H Q) ∨ rIxS x y H Q) ∨ rIdxK x y H Q)
theorem ix_dict {X : Cx} (hu : X.A.units + 1 < cLine) : IxR X rIdxK := by
  intro value slice pins s σ H x y v u Q I rx ry h hs
  obtain ⟨a, z, rfl, g, q⟩ := h
  cases rx
  exact tail_any (dict_typeIs I g) PySem.F.slot_dict_getitem.lookup (d_getItem hu I g ry fun w' s3 I3 rw' => ⟨z, H, I3, rw', q⟩) hs
theorem ix_all {X : Cx} (hu : X.A.units + 1 < cLine) : IxR X (rIdxAll X.K) := IxR.or (IxR.or (IxR.or ix_list ix_tup) ix_str) (ix_dict hu)
section
variable {K : PySem.W.Frag} {F : Hp} {B : List V} {Hs Hs' : Hp} {S S' : Env} {σ : St} {H H' : Hp} {r : R} {v : V} {d : D} {Q : VK}
theorem atI_rv {ds : List D} {vs : List V} {i : Int} (r : RVs K H ds vs) (e : atI ds i = some d) : ∃ v, atI vs i = some v ∧ RV K H d v := by
  unfold atI at e ⊢
  rw [r.length] at e
  simp only [Option.bind_eq_some_iff] at e ⊢
  obtain ⟨j, hj, e⟩ := e
  obtain ⟨v, h1, h2⟩ := r.get e
  exact ⟨v, ⟨j, hj, h1⟩, h2⟩
theorem dGet_rv {k : Key} : ∀ {kvs : List (Key × V)} {ds : List D}, RVs K H ds (kvs.map (·.2)) → dGet (kvs.map (·.1)) ds k = some d → ∃ v, valV kvs k = some v ∧ RV K H d v
  | [], _, .nil, e => by simp [dGet] at e
  | p :: kvs, _, .cons r t, e => by
    rw [List.map_cons] at e
    unfold dGet at e
    by_cases hk : p.1 = k
    · rw [if_pos hk] at e
      cases e
      exact ⟨p.2, valV_pos hk, r⟩
    · rw [if_neg hk] at e
      obtain ⟨v, h1, h2⟩ := dGet_rv t e
      exact ⟨v, by rw [valV_neg hk]; exact h1, h2⟩
theorem gIdx_ok : OpD K (rIdxAll K) gIdx := by
  intro F B Hs S σ H d1 d2 x y r Q rep p1 p2 e g
  unfold gIdx at e
  split at e
  · rename_i ds i
    simp only [Option.map_eq_some_iff] at e
    obtain ⟨d, hd, rfl⟩ := e
    obtain ⟨a, vs, rfl, h1, r1⟩ := p1.lst rep
    obtain rfl := p2.int
    obtain ⟨v, hv, rv⟩ := atI_rv r1 hd
    exact .inl (.inl (.inl ⟨a, vs, i, v, rfl, rfl, .inl h1, hv, g.val rep rv⟩))
  · rename_i ds i
    simp only [Option.map_eq_some_iff] at e
    obtain ⟨d, hd, rfl⟩ := e
    obtain ⟨a, vs, rfl, h1, h1', r1⟩ := p1.tup rep
    obtain rfl := p2.int
    obtain ⟨v, hv, rv⟩ := atI_rv r1 hd
    exact .inl (.inl (.inr ⟨a, vs, i, v, rfl, rfl, h1, hv, g.val rep rv⟩))
  · rename_i ds i
    simp only [Option.map_eq_some_iff] at e
    obtain ⟨d, hd, rfl⟩ := e
    obtain ⟨a, vs, rfl, h1, r1⟩ := p1.scr rep
    obtain rfl := p2.int
    obtain ⟨v, hv, rv⟩ := atI_rv r1 hd
    exact .inl (.inl (.inl ⟨a, vs, i, v, rfl, rfl, h1, hv, g.val rep rv⟩))
  · rename_i z i
    split at e
    · rename_i hz
      simp only [Option.map_eq_some_iff] at e
      obtain ⟨c, hc, rfl⟩ := e
      obtain rfl := p1.str
      obtain rfl := p2.int
      exact .inl (.inr ⟨z, i, c, rfl, rfl, by rw [sizeLine_eq]; exact hz, hc, g.val rep (.str _)⟩)
    · cases e
  · rename_i ks ds _
    simp only [Option.bind_eq_some_iff, Option.map_eq_some_iff] at e
    obtain ⟨k, hk, d, hd, rfl⟩ := e
    obtain ⟨a, kvs, rfl, h1, h2, h3⟩ := p1.dct rep
    obtain rfl := keyD_rv hk (p2.rv rep)
    subst h2
    obtain ⟨v, hv, rv⟩ := dGet_rv h3 hd
    exact .inr ⟨a, v, rfl, .inl ⟨kvs, k, h1, rfl, hv.symm⟩, g.val rep rv⟩
  · cases e
end

/-! ### slices -/
def cutD (xs : List D) (lo hi : Option Int) : List D := (xs.drop (HT.sIx xs.length 0 lo)).take (HT.sIx xs.length xs.length hi - HT.sIx xs.length 0 lo)
def gSl : D → Option Int → Option Int → Option R
  | .lst ds, lo, hi => some (.fr (.lst (cutD ds lo hi)))
  | .tup ds, lo, hi => some (.val (.tup (cutD ds lo hi)))
  | .str z, lo, hi => if z.length ≤ 16777216 then some (.val (.str (cutS z lo hi))) else none
  | _, _, _ => none
abbrev So := Cc → Env → O (Option Int)
def sNoP : So := fun _ S => .ok none S
def sPart (f : Sm) : So := fun C S => (f C S).bind fun r S1 => match pk r S1 with
  | some (.int i) => .ok (some i) S1
  | _ => .bad
def sSl (fa : Sm) (lo hi : So) : Sm := fun C S => (fa C S).bind fun r1 S1 => (lo C S1).bind fun l S2 => (hi C S2).bind fun u S3 => match pk r1 S3 with
  | some d => (match gSl d l u with
    | some r => .ok r S3
    | none => .bad)
  | none => .bad
def Pof (X : Cx) (W : WX) (C : Cc) (f : So) : TO := fun σ H Q => ∃ F B Hs S, Rep X.K F B Hs S σ H ∧ FinA X.K X.mg W F B Hs σ (fun o S' Hs' H' => Q o H') (f C S)
theorem PO.wk {X : Cx} {e : Option Expr} {t t' : TO} (h : PO X e t) (w : ∀ σ H Q, t' σ H Q → t σ H Q) : PO X e t' := ⟨fun pins s σ H Q I q => h.run pins s σ H Q I (w σ H Q q)⟩
section
variable {X : Cx} {W : WX} {C : Cc}
theorem k_noP : PO X none (Pof X W C sNoP) := PO.wk po_none fun σ H Q ⟨F, B, Hs, S, rep, fin⟩ => fin H Hs (.refl _) rep
theorem k_part {e : Expr} {f : Sm} (h : PE X e (Eof X W C f)) : PO X (some e) (Pof X W C (sPart f)) := by
  refine PO.wk (po_some h) fun σ H Q ⟨F, B, Hs, S, rep, fin⟩ => ?_
  refine eof_bind rep fin _ fun r1 S1 v1 H1 Hs1 s1 rep1 rr1 fin1 => ?_
  obtain ⟨Hs1', s1', rep1', rw1⟩ := unfr_ok rep1 rr1
  rw [← pk_unfr (r := r1)] at fin1
  split at fin1
  · rename_i i e1
    have p := pk_ok rep1' rw1 e1
    exact ⟨i, p.int, fin1 H1 Hs1' s1' rep1'⟩
  · exact fin1.elim
theorem pof_bind {f : So} {F : Hp} {B : List V} {Hs : Hp} {S : Env} {σ : St} {H : Hp} {α : Type} {P : α → Env → Hp → Hp → Prop} {k : Option Int → Env → O α} (rep : Rep X.K F B Hs S σ H) (h : FinA X.K X.mg W F B Hs σ P ((f C S).bind k)) (Q1 : Option Int → Hp → Prop)
    (next : ∀ o S1 H1 Hs1, Same Hs Hs1 → Rep X.K F B Hs1 S1 σ H1 → FinA X.K X.mg W F B Hs1 σ P (k o S1) → Q1 o H1) : Pof X W C f σ H Q1 := by
  refine ⟨F, B, Hs, S, rep, ?_⟩
  cases e : f C S with
  | ok r S1 =>
    rw [e] at h
    exact fun H1 Hs1 s1 rep1 => next r S1 H1 Hs1 s1 rep1 (FinA.later s1 h)
  | ex c ns ds S1 => rw [e] at h; exact h
  | bad => rw [e] at h; exact h
def rSlAll (K : PySem.W.Frag) : V → Option Int → Option Int → Hp → VK → Prop := fun x lo hi H Q => rSlL K x lo hi H Q ∨ rSlA K x lo hi H Q ∨ rSlS x lo hi H Q
theorem sl_all : SlR X (rSlAll X.K) := SlR.or sl_list (SlR.or sl_tupA sl_str)
theorem RVs.cut {K : PySem.W.Frag} {H : Hp} {ds : List D} {vs : List V} (r : RVs K H ds vs) (lo hi : Option Int) : RVs K H (cutD ds lo hi) (cutV vs lo hi) := by
  unfold cutD cutV
  rw [r.length]
  exact (r.drop _).take _
theorem cut_whole {ds : List D} {lo hi : Option Int} (h : HT.sIx ds.length 0 lo = 0 ∧ HT.sIx ds.length ds.length hi = ds.length) : cutD ds lo hi = ds := by
  unfold cutD
  rw [h.1, h.2, List.drop_zero, Nat.sub_zero, List.take_length]
theorem k_slice {e : Expr} {lo hi : Option Expr} {fa : Sm} {fl fh : So} {p2 pos : Pos} (he : PE X e (Eof X W C fa)) (hl : PO X lo (Pof X W C fl)) (hu : PO X hi (Pof X W C fh)) : PE X (.Subscript e (.Slice lo hi none p2) pos) (Eof X W C (sSl fa fl fh)) := by
  refine PE.wk (pe_slice sl_all he hl hu) fun σ H Q ⟨F, B, Hs, S, rep, fin⟩ => ?_
  refine eof_bind rep fin.to _ fun r1 S1 v1 H1 Hs1 s1 rep1 rr1 fin1 => ?_
  obtain ⟨Hs1', s1', rep1', rw1⟩ := unfr_ok rep1 rr1
  refine pof_bind rep1' (fin1.later s1') _ fun l S2 H2 Hs2 s2 rep2 fin2 => ?_
  refine pof_bind rep2 fin2 _ fun u S3 H3 Hs3 s3 rep3 fin3 => ?_
  rw [← pk_unfr (r := r1)] at fin3
  have rw3 := rw1.mono (s2.trans s3)
  cases e1 : pk (unfr r1) S3 with
  | none => rw [e1] at fin3; exact fin3.elim
  | some d =>
    rw [e1] at fin3
    simp only at fin3
    have p := pk_ok rep3 rw3 e1
    cases e3 : gSl d l u with
    | none => rw [e3] at fin3; exact fin3.elim
    | some r =>
      rw [e3] at fin3
      have g : Got X.K F B Hs3 S3 σ r Q := fun v H' Hs' s' rep' rr' => fin3 H' Hs' s' rep' v rr'
      unfold gSl at e3
      split at e3
      · rename_i ds
        cases e3
        obtain ⟨a, vs, rfl, h1, r1⟩ := p.lst rep3
        exact .inl ⟨a, vs, rfl, .inl h1, fun p hp => g.fr rep3 hp (.lst (r1.cut _ _))⟩
      · rename_i ds
        cases e3
        obtain ⟨a, vs, rfl, h1, h1', r1⟩ := p.tup rep3
        refine .inr (.inl ⟨a, vs, rfl, h1, fun hw => ?_, fun hw p hp => g.tup rep3 hp (r1.cut _ _)⟩)
        rw [← r1.length] at hw
        rw [cut_whole hw] at g
        exact g.val rep3 (.tup h1' r1)
      · rename_i z
        split at e3
        · rename_i hz
          cases e3
          obtain rfl := p.str
          exact .inr (.inr ⟨z, rfl, by rw [sizeLine_eq]; exact hz, g.val rep3 (.str _)⟩)
        · cases e3
      · cases e3
end

/-! ### expressions by operators -/
section
variable {X : Cx} {W : WX} {C : Cc} {a b : Expr} {fa fb : Sm} {pos : Pos}
theorem k_op {op : Operator} {r2 : R2} {g : D → D → Option R} (ho : OpR X (binaryOp op) r2) (og : OpD X.K r2 g) (ha : PE X a (Eof X W C fa)) (hb : PE X b (Eof X W C fb)) : PE X (.BinOp a op b pos) (Eof X W C (sOp2 g fa fb)) :=
  PE.wk (pe_op ho ha hb) fun _ _ _ => op2_ok og
theorem k_cmp {op : CmpOp} {r2 : R2} {g : D → D → Option R} (ho : OpR X (compareOp op) r2) (og : OpD X.K r2 g) (ha : PE X a (Eof X W C fa)) (hb : PE X b (Eof X W C fb)) (hm : behindInMarks op b = false) : PE X (.Compare a [op] [b] pos) (Eof X W C (sOp2 g fa fb)) :=
  PE.wk (pe_cmpR ho ha hb hm) fun _ _ _ => op2_ok og
theorem k_neg (ha : PE X a (Eof X W C fa)) : PE X (.UnaryOp .USub a pos) (Eof X W C (sOp1 gNeg fa)) := PE.wk (pe_un un_neg ha) fun _ _ _ => op1_ok gNeg_ok
theorem k_idx (hu : X.A.units + 1 < cLine) (ha : PE X a (Eof X W C fa)) (hb : PE X b (Eof X W C fb)) (hs : PlainIx b) : PE X (.Subscript a b pos) (Eof X W C (sOp2 gIdx fa fb)) := PE.wk (pe_ix (ix_all hu) ha hb hs) fun _ _ _ => op2_ok gIdx_ok

/-! ### tests -/
def Tof (X : Cx) (W : WX) (C : Cc) (f : Sb) : TT := fun σ H Q => ∃ F B Hs S, Rep X.K F B Hs S σ H ∧ FinA X.K X.mg W F B Hs σ (fun b S' Hs' H' => Q b H') (f C S)
def sB (f : Sm) : Sb := fun C S => (f C S).bind fun r S1 => match r with
  | .val (.bl b) => .ok b S1
  | _ => .bad
theorem tof_b {f : Sm} {σ : St} {H : Hp} {Q : Bool → Hp → Prop} (h : Tof X W C (sB f) σ H Q) : Eof X W C f σ H fun x H' => ∃ k, x = .bl k ∧ Q k H' := by
  obtain ⟨F, B, Hs, S, rep, fin⟩ := h
  refine eof_bind rep fin _ fun r1 S1 v1 H1 Hs1 s1 rep1 rr1 fin1 => ?_
  split at fin1
  · rename_i b
    cases rr1
    exact ⟨b, rfl, fin1 H1 Hs1 (.refl _) rep1⟩
  · exact fin1.elim
theorem t_cmp {op : CmpOp} {r2 : R2} {g : D → D → Option R} (ho : OpR X (compareOp op) r2) (og : OpD X.K r2 g) (ha : PE X a (Eof X W C fa)) (hb : PE X b (Eof X W C fb)) (hm : behindInMarks op b = false) : PT X (.Compare a [op] [b] pos) (Tof X W C (sB (sOp2 g fa fb))) :=
  PT.wk (pt_cmpR ho ha hb hm) fun _ _ _ h => op2_ok og (tof_b h)
theorem t_val {e : Expr} {f : Sm} (h : PE X e (Eof X W C f)) (he : ∀ whole, isTrue e X.env whole = (do let v ← whole; standAt e.pos; holding [v] (truthy v))) : PT X e (Tof X W C (sB f)) :=
  PT.wk (pt_val h he) fun _ _ _ q => tof_b q
def sNotT (f : Sb) : Sb := fun C S => (f C S).bind fun b S1 => .ok (!b) S1
def sAndT (f g : Sb) : Sb := fun C S => (f C S).bind fun b S1 => match b with
  | true => g C S1
  | false => .ok false S1
def sOrT (f g : Sb) : Sb := fun C S => (f C S).bind fun b S1 => match b with
  | true => .ok true S1
  | false => g C S1
theorem tof_bind {f : Sb} {F : Hp} {B : List V} {Hs : Hp} {S : Env} {σ : St} {H : Hp} {α : Type} {P : α → Env → Hp → Hp → Prop} {k : Bool → Env → O α} (rep : Rep X.K F B Hs S σ H) (h : FinA X.K X.mg W F B Hs σ P ((f C S).bind k)) (Q1 : Bool → Hp → Prop)
    (next : ∀ o S1 H1 Hs1, Same Hs Hs1 → Rep X.K F B Hs1 S1 σ H1 → FinA X.K X.mg W F B Hs1 σ P (k o S1) → Q1 o H1) : Tof X W C f σ H Q1 := by
  refine ⟨F, B, Hs, S, rep, ?_⟩
  cases e : f C S with
  | ok r S1 =>
    rw [e] at h
    exact fun H1 Hs1 s1 rep1 => next r S1 H1 Hs1 s1 rep1 (FinA.later s1 h)
  | ex c ns ds S1 => rw [e] at h; exact h
  | bad => rw [e] at h; exact h
theorem t_not {f : Sb} (h : PT X a (Tof X W C f)) : PT X (.UnaryOp .Not a pos) (Tof X W C (sNotT f)) :=
  PT.wk (pt_not h) fun σ H Q ⟨F, B, Hs, S, rep, fin⟩ => tof_bind rep fin _ fun b S1 H1 Hs1 s1 rep1 fin1 => fin1 H1 Hs1 (.refl _) rep1
theorem PW.wk {e : Expr} {t t' : TT} (h : PW X e t) (w : ∀ σ H Q, t' σ H Q → t σ H Q) : PW X e t' := ⟨fun wh pins s σ H Q I q => h.run wh pins s σ H Q I (w σ H Q q)⟩
theorem w_and {f g : Sb} {rest : List Expr} (h : PT X a (Tof X W C f)) (h' : PW X (.BoolOp .And (b :: rest) pos) (Tof X W C g)) : PW X (.BoolOp .And (a :: b :: rest) pos) (Tof X W C (sAndT f g)) :=
  PW.wk (pw_and h h') fun σ H Q ⟨F, B, Hs, S, rep, fin⟩ => tof_bind rep fin _ fun c S1 H1 Hs1 s1 rep1 fin1 => by
    cases c with
    | true => exact ⟨F, B, Hs1, S1, rep1, fin1⟩
    | false => exact fin1 H1 Hs1 (.refl _) rep1
theorem w_or {f g : Sb} {rest : List Expr} (h : PT X a (Tof X W C f)) (h' : PW X (.BoolOp .Or (b :: rest) pos) (Tof X W C g)) : PW X (.BoolOp .Or (a :: b :: rest) pos) (Tof X W C (sOrT f g)) :=
  PW.wk (pw_or h h') fun σ H Q ⟨F, B, Hs, S, rep, fin⟩ => tof_bind rep fin _ fun c S1 H1 Hs1 s1 rep1 fin1 => by
    cases c with
    | true => exact fin1 H1 Hs1 (.refl _) rep1
    | false => exact ⟨F, B, Hs1, S1, rep1, fin1⟩
/-- as values -/
def sNotV (f : Sm) : Sm := fun C S => (sB f C S).bind fun b S1 => .ok (.val (.bl (!b))) S1
def sAndV (f g : Sm) : Sm := fun C S => (sB f C S).bind fun b S1 => match b with
  | true => g C S1
  | false => .ok (.val (.bl false)) S1
def sOrV (f g : Sm) : Sm := fun C S => (sB f C S).bind fun b S1 => match b with
  | true => .ok (.val (.bl true)) S1
  | false => g C S1
theorem eofb_bind {f : Sm} {F : Hp} {B : List V} {Hs : Hp} {S : Env} {σ : St} {H : Hp} {α : Type} {P : α → Env → Hp → Hp → Prop} {k : Bool → Env → O α} (rep : Rep X.K F B Hs S σ H) (h : FinA X.K X.mg W F B Hs σ P ((sB f C S).bind k)) (Q1 : Bool → Hp → Prop)
    (next : ∀ o S1 H1 Hs1, Same Hs Hs1 → Rep X.K F B Hs1 S1 σ H1 → FinA X.K X.mg W F B Hs1 σ P (k o S1) → Q1 o H1) : Eof X W C f σ H fun x H' => ∃ c, x = .bl c ∧ Q1 c H' := tof_b (tof_bind rep h Q1 next)
theorem k_not {f : Sm} (h : PE X a (Eof X W C f)) : PE X (.UnaryOp .Not a pos) (Eof X W C (sNotV f)) :=
  PE.wk (pe_not h) fun σ H Q ⟨F, B, Hs, S, rep, fin⟩ => eofb_bind rep fin.to (fun c H1 => Q (.bl (!c)) H1) fun b S1 H1 Hs1 s1 rep1 fin1 => fin1 H1 Hs1 (.refl _) rep1 _ (.bl _)
theorem k_one {op : BoolOp} {f : Sm} (h : PE X a (Eof X W C f)) : PE X (.BoolOp op [a] pos) (Eof X W C f) := pe_one h
theorem k_and {f g : Sm} {rest : List Expr} (h : PE X a (Eof X W C f)) (h' : PE X (.BoolOp .And (b :: rest) pos) (Eof X W C g)) : PE X (.BoolOp .And (a :: b :: rest) pos) (Eof X W C (sAndV f g)) :=
  PE.wk (pe_and h h') fun σ H Q ⟨F, B, Hs, S, rep, fin⟩ => eofb_bind rep fin.to (fun c H1 => if c = true then Eof X W C g σ H1 Q else Q (.bl false) H1) fun c S1 H1 Hs1 s1 rep1 fin1 => by
    cases c with
    | true => exact (if_pos rfl).mpr ⟨F, B, Hs1, S1, rep1, Fin.of fin1⟩
    | false => exact (if_neg Bool.false_ne_true).mpr (fin1 H1 Hs1 (.refl _) rep1 _ (.bl _))
theorem k_or {f g : Sm} {rest : List Expr} (h : PE X a (Eof X W C f)) (h' : PE X (.BoolOp .Or (b :: rest) pos) (Eof X W C g)) : PE X (.BoolOp .Or (a :: b :: rest) pos) (Eof X W C (sOrV f g)) :=
  PE.wk (pe_or h h') fun σ H Q ⟨F, B, Hs, S, rep, fin⟩ => eofb_bind rep fin.to (fun c H1 => if c = true then Q (.bl true) H1 else Eof X W C g σ H1 Q) fun c S1 H1 Hs1 s1 rep1 fin1 => by
    cases c with
    | true => exact (if_pos rfl).mpr (fin1 H1 Hs1 (.refl _) rep1 _ (.bl _))
    | false => exact (if_neg Bool.false_ne_true).mpr ⟨F, B, Hs1, S1, rep1, Fin.of fin1⟩
/-- a if t else b -/
def sIte (t : Sb) (f g : Sm) : Sm := fun C S => (t C S).bind fun b S1 => match b with
  | true => f C S1
  | false => g C S1
theorem k_ite {c : Expr} {t : Sb} (hc : PT X c (Tof X W C t)) (ha : PE X a (Eof X W C fa)) (hb : PE X b (Eof X W C fb)) : PE X (.IfExp c a b pos) (Eof X W C (sIte t fa fb)) :=
  PE.wk (pe_ifExp hc ha hb) fun σ H Q ⟨F, B, Hs, S, rep, fin⟩ => tof_bind rep fin.to _ fun c S1 H1 Hs1 s1 rep1 fin1 => by
    cases c with
    | true => exact (if_pos rfl).mpr ⟨F, B, Hs1, S1, rep1, Fin.of fin1⟩
    | false => exact (if_neg Bool.false_ne_true).mpr ⟨F, B, Hs1, S1, rep1, Fin.of fin1⟩
end
end Kn

/-! Kn5 -/
/-! Kn part 5: calls of built-ins, methods, displays of dicts. -/
namespace Kn
open PySem PySem.Spec PyProof.Rows L2

/-! ### arguments that are looked at -/
inductive RWs (K : PySem.W.Frag) (Hs : Hp) (σ : St) : List R → List V → Prop
  | nil : RWs K Hs σ [] []
  | cons {r : R} {v : V} {rs : List R} {vs : List V} : RW K Hs σ r v → RWs K Hs σ rs vs → RWs K Hs σ (r :: rs) (v :: vs)
theorem RWs.mono {K : PySem.W.Frag} {Hs Hs' : Hp} {σ : St} (s : Same Hs Hs') {rs : List R} {vs : List V} (h : RWs K Hs σ rs vs) : RWs K Hs' σ rs vs := by
  induction h with
  | nil => exact .nil
  | cons r _ ih => exact .cons (r.mono s) ih
inductive PVs (K : PySem.W.Frag) (Hs H : Hp) : List D → List V → Prop
  | nil : PVs K Hs H [] []
  | cons {d : D} {v : V} {ds : List D} {vs : List V} : PV K Hs H d v → PVs K Hs H ds vs → PVs K Hs H (d :: ds) (v :: vs)
def pks : List R → Env → Option (List D)
  | [], _ => some []
  | r :: rs, S => (pk r S).bind fun d => (pks rs S).map (d :: ·)
theorem pks_ok {K : PySem.W.Frag} {F : Hp} {B : List V} {Hs : Hp} {S : Env} {σ : St} {H : Hp} (rep : Rep K F B Hs S σ H) : ∀ {rs : List R} {vs : List V} {ds : List D}, RWs K Hs σ rs vs → pks rs S = some ds → PVs K Hs H ds vs
  | _, _, _, .nil, e => by cases e; exact .nil
  | _, _, _, .cons r t, e => by
    simp only [pks, Option.bind_eq_some_iff, Option.map_eq_some_iff] at e
    obtain ⟨d, e1, ds, e2, rfl⟩ := e
    exact .cons (pk_ok rep r e1) (pks_ok rep t e2)
abbrev Srl := Cc → Env → O (List R)
def sRNil : Srl := fun _ S => .ok [] S
def sRCons (f : Sm) (g : Srl) : Srl := fun C S => (f C S).bind fun r S1 => (g C S1).bind fun rs S2 => .ok (unfr r :: rs) S2
def Rof (X : Cx) (W : WX) (C : Cc) (f : Srl) : TA := fun σ H Q => ∃ F B Hs S, Rep X.K F B Hs S σ H ∧ FinA X.K X.mg W F B Hs σ (fun rs S' Hs' H' => ∀ vs, RWs X.K Hs' σ rs vs → Q vs H') (f C S)
section
variable {X : Cx} {W : WX} {C : Cc}
theorem r_nil : PA X [] (Rof X W C sRNil) := PA.wk pa_nil fun σ H Q ⟨F, B, Hs, S, rep, fin⟩ => fin H Hs (.refl _) rep [] .nil
theorem r_cons {e : Expr} {es : List Expr} {f : Sm} {g : Srl} (he : PE X e (Eof X W C f)) (hs : PA X es (Rof X W C g)) (hst : starEach (e :: es) X.env = (false, eval e X.env) :: starEach es X.env) : PA X (e :: es) (Rof X W C (sRCons f g)) := by
  refine PA.wk (pa_cons he hs hst) fun σ H Q ⟨F, B, Hs, S, rep, fin⟩ => ?_
  refine eof_bind rep fin _ fun r S1 v H1 Hs1 s1 rep1 rr fin1 => ?_
  obtain ⟨Hs1', s1', rep1', rw1⟩ := unfr_ok rep1 rr
  have fin2 := fin1.later s1'
  refine ⟨F, B, Hs1', S1, rep1', ?_⟩
  cases e2 : g C S1 with
  | ok rs S3 =>
    rw [e2] at fin2
    exact fun H3 Hs3 s3 rep3 vs rvs => fin2 H3 Hs3 s3 rep3 (v :: vs) (.cons (rw1.mono s3) rvs)
  | ex c ns ds S3 => rw [e2] at fin2; exact fin2
  | bad => rw [e2] at fin2; exact fin2.elim
theorem rof_bind {f : Srl} {F : Hp} {B : List V} {Hs : Hp} {S : Env} {σ : St} {H : Hp} {α : Type} {P : α → Env → Hp → Hp → Prop} {k : List R → Env → O α} (rep : Rep X.K F B Hs S σ H) (h : FinA X.K X.mg W F B Hs σ P ((f C S).bind k)) (Q1 : List V → Hp → Prop)
    (next : ∀ rs S1 vs H1 Hs1, Same Hs Hs1 → Rep X.K F B Hs1 S1 σ H1 → RWs X.K Hs1 σ rs vs → FinA X.K X.mg W F B Hs1 σ P (k rs S1) → Q1 vs H1) : Rof X W C f σ H Q1 := by
  refine ⟨F, B, Hs, S, rep, ?_⟩
  cases e : f C S with
  | ok r S1 =>
    rw [e] at h
    exact fun H1 Hs1 s1 rep1 v rr => next r S1 v H1 Hs1 s1 rep1 rr (FinA.later s1 h)
  | ex c ns ds S1 => rw [e] at h; exact h
  | bad => rw [e] at h; exact h
def sBi (g : List D → Option R) (f : Srl) : Sm := fun C S => (f C S).bind fun rs S1 => match pks rs S1 with
  | some ds => (match g ds with
    | some r => .ok r S1
    | none => .bad)
  | none => .bad
def CbD (K : PySem.W.Frag) (r1 : List V → Hp → VK → Prop) (g : List D → Option R) : Prop := ∀ {F : Hp} {B : List V} {Hs : Hp} {S : Env} {σ : St} {H : Hp} {ds : List D} {vs : List V} {r : R} {Q : VK},
  Rep K F B Hs S σ H → PVs K Hs H ds vs → g ds = some r → Got K F B Hs S σ r Q → r1 vs H Q
theorem bi_ok {f : Srl} {r1 : List V → Hp → VK → Prop} {g : List D → Option R} (og : CbD X.K r1 g) {σ : St} {H : Hp} {Q : VK} (h : Eof X W C (sBi g f) σ H Q) : tCB r1 (Rof X W C f) σ H Q := by
  obtain ⟨F, B, Hs, S, rep, fin⟩ := h
  refine rof_bind rep fin.to _ fun rs S1 vs H1 Hs1 s1 rep1 rws fin1 => ?_
  cases e1 : pks rs S1 with
  | none => rw [e1] at fin1; exact fin1.elim
  | some ds =>
    rw [e1] at fin1
    simp only at fin1
    cases e3 : g ds with
    | none => rw [e3] at fin1; exact fin1.elim
    | some r =>
      rw [e3] at fin1
      exact og rep1 (pks_ok rep1 rws e1) e3 fun v H' Hs' s' rep' rr' => fin1 H' Hs' s' rep' v rr'
theorem k_callB {x : Str} {p pos : Pos} {e : Expr} {es : List Expr} {f : Srl} {id : String} {r1 : List V → Hp → VK → Prop} {g : List D → Option R} (og : CbD X.K r1 g) (hc : CallR X (.builtin id) r1) (hg : Gl X x) (hm : X.mg x = none) (hv : bootBuiltins x = some (.builtin id)) (ha : PA X (e :: es) (Rof X W C f)) (hn : x ≠ "__name__") (hdb : (x == ("__debug__" : Str)) = false)
    (he : starEach (e :: es) X.env = (false, eval e X.env) :: starEach es X.env) (hpl : (backTo pos (starEach es X.env)).any (·.1) = false) : PE X (.Call (.Name x p) (e :: es) [] pos) (Eof X W C (sBi g f)) :=
  PE.wk (pe_callB hc hg hm hv ha hn hdb he hpl) fun _ _ _ => bi_ok og
theorem k_callTy {x : Str} {p pos : Pos} {e : Expr} {es : List Expr} {f : Srl} {T : String} {r1 : List V → Hp → VK → Prop} {g : List D → Option R} (og : CbD X.K r1 g) (hc : CallR X (.type T) r1) (hg : Gl X x) (hm : X.mg x = none) (hv : bootBuiltins x = some (.type T)) (ha : PA X (e :: es) (Rof X W C f)) (hn : x ≠ "__name__") (hdb : (x == ("__debug__" : Str)) = false)
    (he : starEach (e :: es) X.env = (false, eval e X.env) :: starEach es X.env) (hpl : (backTo pos (starEach es X.env)).any (·.1) = false) : PE X (.Call (.Name x p) (e :: es) [] pos) (Eof X W C (sBi g f)) :=
  PE.wk (pe_callTy hc hg hm hv ha hn hdb he hpl) fun _ _ _ => bi_ok og
theorem CallR.or' {f : Value} {r r' : List V → Hp → VK → Prop} (h : CallR X f r) (h' : CallR X f r') : CallR X f (fun xs H Q => r xs H Q ∨ r' xs H Q) := by
  intro pins s σ H xs us Q I rv q
  rcases q with q | q
  · exact h pins s σ H xs us Q I rv q
  · exact h' pins s σ H xs us Q I rv q
end
section
variable {K : PySem.W.Frag} {F : Hp} {B : List V} {Hs Hs' : Hp} {S S' : Env} {σ : St} {H H' : Hp} {r : R} {v : V} {d : D} {Q : VK}
theorem PVs.one {d : D} {vs : List V} (h : PVs K Hs H [d] vs) : ∃ v, vs = [v] ∧ PV K Hs H d v := by
  cases h with
  | cons h t => cases t; exact ⟨_, rfl, h⟩
theorem PVs.two {d e : D} {vs : List V} (h : PVs K Hs H [d, e] vs) : ∃ v u, vs = [v, u] ∧ PV K Hs H d v ∧ PV K Hs H e u := by
  cases h with
  | cons h t =>
    obtain ⟨u, rfl, h2⟩ := t.one
    exact ⟨_, _, rfl, h, h2⟩
end

/-! ### the built-ins -/
def lenD : D → Option Int
  | .lst ds => some ds.length
  | .tup ds => some ds.length
  | .scr ds => some ds.length
  | .str z => if z.length ≤ 16777216 then some z.length else none
  | .dct ks ds => if ks.length = ds.length then some ks.length else none
  | _ => none
def gLen : List D → Option R
  | [d] => (lenD d).map fun n => .val (.int n)
  | _ => none
def gInt : List D → Option R
  | [.int i] => some (.val (.int i))
  | [.bl k] => some (.val (.int (if k then 1 else 0)))
  | [.str z] => match PySem.intText? z with
    | some n => if z.length ≤ 640 then some (.val (.int n)) else none
    | none => none
  | _ => none
def gStr : List D → Option R
  | [.int i] => if i.natAbs.log2 < 1920 then some (.val (.str (toString i))) else none
  | [.str z] => some (.val (.str z))
  | _ => none
def signsD (x : Str) : List D := x.cps.toList.map fun c => .str ⟨#[c]⟩
def gList : List D → Option R
  | [.str x] => if x.length ≤ 16777216 then some (.fr (.lst (signsD x))) else none
  | [.lst ds] => some (.fr (.lst ds))
  | [.tup ds] => some (.fr (.lst ds))
  | [.scr ds] => some (.fr (.lst ds))
  | _ => none
def gTuple : List D → Option R
  | [.lst ds] => some (.val (.tup ds))
  | [.tup ds] => some (.val (.tup ds))
  | _ => none
def gAbs : List D → Option R
  | [.int i] => some (.val (.int (if i < 0 then -i else i)))
  | _ => none
def asInts : List D → Option (List Int)
  | [] => some []
  | .int i :: ds => (asInts ds).map (i :: ·)
  | _ => none
def asBls : List D → Option (List Bool)
  | [] => some []
  | .bl i :: ds => (asBls ds).map (i :: ·)
  | _ => none
def asStrs : List D → Option (List Str)
  | [] => some []
  | .str i :: ds => (asStrs ds).map (i :: ·)
  | _ => none
def maxL : Int → List Int → Int
  | m, [] => m
  | m, i :: r => maxL (if i > m then i else m) r
def minL : Int → List Int → Int
  | m, [] => m
  | m, i :: r => minL (if i < m then i else m) r
def gMax : List D → Option R
  | [.int i, .int j] => some (.val (.int (if j > i then j else i)))
  | [.lst ds] => match asInts ds with
    | some (m :: r) => some (.val (.int (maxL m r)))
    | _ => none
  | _ => none
def gMin : List D → Option R
  | [.int i, .int j] => some (.val (.int (if j < i then j else i)))
  | [.lst ds] => match asInts ds with
    | some (m :: r) => some (.val (.int (minL m r)))
    | _ => none
  | _ => none
def gAll : List D → Option R
  | [.lst ds] => (asBls ds).map fun bs => .val (.bl (bs.all id))
  | _ => none
def gAny : List D → Option R
  | [.lst ds] => (asBls ds).map fun bs => .val (.bl (bs.any id))
  | _ => none
def gSum : List D → Option R
  | [.lst ds] => (asInts ds).map fun bs => .val (.int bs.sum)
  | _ => none
section
variable {K : PySem.W.Frag}
theorem ints_rv {H : Hp} : ∀ {ds : List D} {vs : List V} {ns : List Int}, asInts ds = some ns → RVs K H ds vs → vs = ns.map V.int
  | [], _, _, e, .nil => by cases e; rfl
  | .int i :: ds, _, _, e, .cons r t => by
    simp only [asInts, Option.map_eq_some_iff] at e
    obtain ⟨ns, e1, rfl⟩ := e
    cases r
    rw [ints_rv e1 t, List.map_cons]
theorem bls_rv {H : Hp} : ∀ {ds : List D} {vs : List V} {ns : List Bool}, asBls ds = some ns → RVs K H ds vs → vs = ns.map V.bl
  | [], _, _, e, .nil => by cases e; rfl
  | .bl i :: ds, _, _, e, .cons r t => by
    simp only [asBls, Option.map_eq_some_iff] at e
    obtain ⟨ns, e1, rfl⟩ := e
    cases r
    rw [bls_rv e1 t, List.map_cons]
theorem strs_rv {H : Hp} : ∀ {ds : List D} {vs : List V} {ns : List Str}, asStrs ds = some ns → RVs K H ds vs → vs = ns.map V.str
  | [], _, _, e, .nil => by cases e; rfl
  | .str i :: ds, _, _, e, .cons r t => by
    simp only [asStrs, Option.map_eq_some_iff] at e
    obtain ⟨ns, e1, rfl⟩ := e
    cases r
    rw [strs_rv e1 t, List.map_cons]
theorem maxL_mem : ∀ (r : List Int) (m : Int), maxL m r ∈ m :: r ∧ ∀ y ∈ m :: r, y ≤ maxL m r
  | [], m => ⟨List.mem_singleton.mpr rfl, fun y hy => by rw [List.mem_singleton.mp hy]; exact Int.le_refl _⟩
  | i :: r, m => by
    obtain ⟨h1, h2⟩ := maxL_mem r (if i > m then i else m)
    unfold maxL
    refine ⟨?_, fun y hy => ?_⟩
    · rcases List.mem_cons.mp h1 with h | h
      · rw [h]
        split
        · exact List.mem_cons_of_mem _ List.mem_cons_self
        · exact List.mem_cons_self
      · exact List.mem_cons_of_mem _ (List.mem_cons_of_mem _ h)
    · have h3 := h2 _ List.mem_cons_self
      rcases List.mem_cons.mp hy with h | h
      · subst h
        refine Int.le_trans ?_ h3
        split <;> omega
      · rcases List.mem_cons.mp h with h | h
        · subst h
          refine Int.le_trans ?_ h3
          split <;> omega
        · exact h2 y (List.mem_cons_of_mem _ h)
theorem minL_mem : ∀ (r : List Int) (m : Int), minL m r ∈ m :: r ∧ ∀ y ∈ m :: r, minL m r ≤ y
  | [], m => ⟨List.mem_singleton.mpr rfl, fun y hy => by rw [List.mem_singleton.mp hy]; exact Int.le_refl _⟩
  | i :: r, m => by
    obtain ⟨h1, h2⟩ := minL_mem r (if i < m then i else m)
    unfold minL
    refine ⟨?_, fun y hy => ?_⟩
    · rcases List.mem_cons.mp h1 with h | h
      · rw [h]
        split
        · exact List.mem_cons_of_mem _ List.mem_cons_self
        · exact List.mem_cons_self
      · exact List.mem_cons_of_mem _ (List.mem_cons_of_mem _ h)
    · have h3 := h2 _ List.mem_cons_self
      rcases List.mem_cons.mp hy with h | h
      · subst h
        refine Int.le_trans h3 ?_
        split <;> omega
      · rcases List.mem_cons.mp h with h | h
        · subst h
          refine Int.le_trans h3 ?_
          split <;> omega
        · exact h2 y (List.mem_cons_of_mem _ h)
def rLenAll (K : PySem.W.Frag) : List V → Hp → VK → Prop := fun xs H Q => (∃ x n, xs = [x] ∧ LenV K x H n ∧ Q (.int n) H) ∨ ∃ a kvs, xs = [V.ref a] ∧ Rd H a (.dK kvs) ∧ Q (.int kvs.length) H
theorem call_lenR {X : Cx} : CallR X (.builtin "len") (fun xs H Q => ∃ a kvs, xs = [V.ref a] ∧ Rd H a (.dK kvs) ∧ Q (.int kvs.length) H) := by
  intro pins s σ H xs us Q I r h
  obtain ⟨a, kvs, rfl, ha, q⟩ := h
  obtain ⟨u, rfl, ru⟩ := vals1 r
  cases ru
  rcases ha with ha | ⟨o, ha⟩
  · exact d_len I (.inl ha) fun t s' I' => ⟨.int kvs.length, H, I', ⟨t, rfl⟩, q⟩
  · exact d_len I (.inr ⟨o, ha⟩) fun t s' I' => ⟨.int kvs.length, H, I', ⟨t, rfl⟩, q⟩
theorem call_lenAll {X : Cx} : CallR X (.builtin "len") (rLenAll X.K) := CallR.or' call_len call_lenR
theorem gLen_ok : CbD K (rLenAll K) gLen := by
  intro F B Hs S σ H ds vs r Q rep ps e g
  unfold gLen at e
  split at e
  · rename_i d
    obtain ⟨v, rfl, p⟩ := ps.one
    simp only [Option.map_eq_some_iff] at e
    obtain ⟨n, hn, rfl⟩ := e
    have q := g.val rep (.int n)
    unfold lenD at hn
    split at hn
    · cases hn
      obtain ⟨a, ws, rfl, h1, r1⟩ := p.lst rep
      exact .inl ⟨_, _, rfl, .inl ⟨ws, .inl h1, r1.length⟩, q⟩
    · cases hn
      obtain ⟨a, ws, rfl, h1, h1', r1⟩ := p.tup rep
      exact .inl ⟨_, _, rfl, .inr ⟨ws, h1, r1.length⟩, q⟩
    · cases hn
      obtain ⟨a, ws, rfl, h1, r1⟩ := p.scr rep
      exact .inl ⟨_, _, rfl, .inl ⟨ws, h1, r1.length⟩, q⟩
    · split at hn
      · rename_i hz
        cases hn
        obtain rfl := p.str
        exact .inl ⟨_, _, rfl, ⟨by rw [sizeLine_eq]; exact hz, rfl⟩, q⟩
      · cases hn
    · split at hn
      · rename_i hz
        cases hn
        obtain ⟨a, kvs, rfl, h1, h2, h3⟩ := p.dct rep
        subst h2
        rw [List.length_map] at q
        exact .inr ⟨a, kvs, rfl, h1, q⟩
      · cases hn
    · cases hn
  · cases e
def rIntAll : List V → Hp → VK → Prop := fun xs H Q => ((∃ i, xs = [.int i] ∧ Q (.int i) H) ∨ ∃ k, xs = [.bl k] ∧ Q (.int (if k then 1 else 0)) H) ∨ ∃ a n, xs = [.str a] ∧ PySem.intText? a = some n ∧ a.length ≤ 640 ∧ Q (.int n) H
theorem call_intAll {X : Cx} : CallR X (.type "int") rIntAll := CallR.or' call_int1 call_int_str
theorem gInt_ok : CbD K rIntAll gInt := by
  intro F B Hs S σ H ds vs r Q rep ps e g
  unfold gInt at e
  split at e
  · cases e
    obtain ⟨v, rfl, p⟩ := ps.one
    obtain rfl := p.int
    exact .inl (.inl ⟨_, rfl, g.val rep (.int _)⟩)
  · cases e
    obtain ⟨v, rfl, p⟩ := ps.one
    obtain rfl := p.bl
    exact .inl (.inr ⟨_, rfl, g.val rep (.int _)⟩)
  · obtain ⟨v, rfl, p⟩ := ps.one
    obtain rfl := p.str
    split at e
    · rename_i n hn
      split at e
      · rename_i hz
        cases e
        exact .inr ⟨_, n, rfl, hn, hz, g.val rep (.int _)⟩
      · cases e
    · cases e
  · cases e
def rStrAll : List V → Hp → VK → Prop := fun xs H Q => (∃ i, xs = [.int i] ∧ i.natAbs.log2 < 1920 ∧ Q (.str (toString i)) H) ∨ ∃ a, xs = [.str a] ∧ Q (.str a) H
theorem call_strAll {X : Cx} : CallR X (.type "str") rStrAll := CallR.or' call_str_int SkE.call_str_str
theorem gStr_ok : CbD K rStrAll gStr := by
  intro F B Hs S σ H ds vs r Q rep ps e g
  unfold gStr at e
  split at e
  · split at e
    · rename_i hz
      cases e
      obtain ⟨v, rfl, p⟩ := ps.one
      obtain rfl := p.int
      exact .inl ⟨_, rfl, hz, g.val rep (.str _)⟩
    · cases e
  · cases e
    obtain ⟨v, rfl, p⟩ := ps.one
    obtain rfl := p.str
    exact .inr ⟨_, rfl, g.val rep (.str _)⟩
  · cases e
def rListAll (K : PySem.W.Frag) : List V → Hp → VK → Prop := fun xs H Q => (∃ p ys, xs = [.ref p] ∧ (SqL K H p ys ∨ SqT K H p ys) ∧ ∀ l, H l = none → Q (.ref l) (upd H l (.lst ys))) ∨ ∃ x, xs = [.str x] ∧ x.length ≤ sizeLine ∧ ∀ l, H l = none → Q (.ref l) (upd H l (.lst (signsV x)))
theorem call_listAll {X : Cx} (hc : X.calm = true) : CallR X (.type "list") (rListAll X.K) := CallR.or' call_list_of (call_list_str hc)
theorem signs_rv {H : Hp} (x : Str) : RVs K H (signsD x) (signsV x) := by
  unfold signsD signsV
  generalize x.cps.toList = l
  induction l with
  | nil => exact .nil
  | cons c l ih => exact .cons (.str _) ih
theorem gList_ok : CbD K (rListAll K) gList := by
  intro F B Hs S σ H ds vs r Q rep ps e g
  unfold gList at e
  split at e
  · split at e
    · rename_i hz
      cases e
      obtain ⟨v, rfl, p⟩ := ps.one
      obtain rfl := p.str
      exact .inr ⟨_, rfl, by rw [sizeLine_eq]; exact hz, fun l hl => g.fr rep hl (.lst (signs_rv _))⟩
    · cases e
  · cases e
    obtain ⟨v, rfl, p⟩ := ps.one
    obtain ⟨a, ws, rfl, h1, r1⟩ := p.lst rep
    exact .inl ⟨a, ws, rfl, .inl (.inl h1), fun l hl => g.fr rep hl (.lst r1)⟩
  · cases e
    obtain ⟨v, rfl, p⟩ := ps.one
    obtain ⟨a, ws, rfl, h1, h1', r1⟩ := p.tup rep
    exact .inl ⟨a, ws, rfl, .inr h1, fun l hl => g.fr rep hl (.lst r1)⟩
  · cases e
    obtain ⟨v, rfl, p⟩ := ps.one
    obtain ⟨a, ws, rfl, h1, r1⟩ := p.scr rep
    exact .inl ⟨a, ws, rfl, .inl h1, fun l hl => g.fr rep hl (.lst r1)⟩
  · cases e
def rTupAll (K : PySem.W.Frag) : List V → Hp → VK → Prop := fun xs H Q => ∃ p ys, xs = [.ref p] ∧ ((SqL K H p ys ∧ ∀ l, H l = none → Q (.ref l) (upd H l (.tup ys))) ∨ (SqT K H p ys ∧ Q (.ref p) H))
theorem gTuple_ok : CbD K (rTupAll K) gTuple := by
  intro F B Hs S σ H ds vs r Q rep ps e g
  unfold gTuple at e
  split at e
  · cases e
    obtain ⟨v, rfl, p⟩ := ps.one
    obtain ⟨a, ws, rfl, h1, r1⟩ := p.lst rep
    exact ⟨a, ws, rfl, .inl ⟨.inl h1, fun l hl => g.tup rep hl r1⟩⟩
  · cases e
    obtain ⟨v, rfl, p⟩ := ps.one
    obtain ⟨a, ws, rfl, h1, h1', r1⟩ := p.tup rep
    exact ⟨a, ws, rfl, .inr ⟨h1, g.val rep (.tup h1' r1)⟩⟩
  · cases e
theorem gAbs_ok : CbD K (fun xs H Q => ∃ i, xs = [.int i] ∧ Q (.int (if i < 0 then -i else i)) H) gAbs := by
  intro F B Hs S σ H ds vs r Q rep ps e g
  unfold gAbs at e
  split at e
  · cases e
    obtain ⟨v, rfl, p⟩ := ps.one
    obtain rfl := p.int
    exact ⟨_, rfl, g.val rep (.int _)⟩
  · cases e
def rMaxAll (K : PySem.W.Frag) : List V → Hp → VK → Prop := fun xs H Q => (∃ i j, xs = [.int i, .int j] ∧ Q (.int (if j > i then j else i)) H) ∨ rMax K xs H Q
def rMinAll (K : PySem.W.Frag) : List V → Hp → VK → Prop := fun xs H Q => (∃ i j, xs = [.int i, .int j] ∧ Q (.int (if j < i then j else i)) H) ∨ rMin K xs H Q
theorem gMax_ok : CbD K (rMaxAll K) gMax := by
  intro F B Hs S σ H ds vs r Q rep ps e g
  unfold gMax at e
  split at e
  · cases e
    obtain ⟨v, u, rfl, p, p'⟩ := ps.two
    obtain rfl := p.int
    obtain rfl := p'.int
    exact .inl ⟨_, _, rfl, g.val rep (.int _)⟩
  · obtain ⟨v, rfl, p⟩ := ps.one
    split at e
    · rename_i m t hm
      cases e
      obtain ⟨a, ws, rfl, h1, r1⟩ := p.lst rep
      have ew := ints_rv hm r1
      subst ew
      obtain ⟨z1, z2⟩ := maxL_mem t m
      refine .inr ⟨a, m :: t, rfl, .inl h1, Nat.succ_pos _, fun k hk hle => ?_⟩
      have e1 : k = maxL m t := Int.le_antisymm (z2 k hk) (hle _ z1)
      rw [e1]
      exact g.val rep (.int _)
    · cases e
  · cases e
theorem gMin_ok : CbD K (rMinAll K) gMin := by
  intro F B Hs S σ H ds vs r Q rep ps e g
  unfold gMin at e
  split at e
  · cases e
    obtain ⟨v, u, rfl, p, p'⟩ := ps.two
    obtain rfl := p.int
    obtain rfl := p'.int
    exact .inl ⟨_, _, rfl, g.val rep (.int _)⟩
  · obtain ⟨v, rfl, p⟩ := ps.one
    split at e
    · rename_i m t hm
      cases e
      obtain ⟨a, ws, rfl, h1, r1⟩ := p.lst rep
      have ew := ints_rv hm r1
      subst ew
      obtain ⟨z1, z2⟩ := minL_mem t m
      refine .inr ⟨a, m :: t, rfl, .inl h1, Nat.succ_pos _, fun k hk hle => ?_⟩
      have e1 : k = minL m t := Int.le_antisymm (hle _ z1) (z2 k hk)
      rw [e1]
      exact g.val rep (.int _)
    · cases e
  · cases e
theorem gAll_ok : CbD K (rAll K) gAll := by
  intro F B Hs S σ H ds vs r Q rep ps e g
  unfold gAll at e
  split at e
  · obtain ⟨v, rfl, p⟩ := ps.one
    simp only [Option.map_eq_some_iff] at e
    obtain ⟨bs, hb, rfl⟩ := e
    obtain ⟨a, ws, rfl, h1, r1⟩ := p.lst rep
    have ew := bls_rv hb r1
    subst ew
    exact ⟨a, bs, rfl, .inl h1, g.val rep (.bl _)⟩
  · cases e
theorem gAny_ok : CbD K (rAny K) gAny := by
  intro F B Hs S σ H ds vs r Q rep ps e g
  unfold gAny at e
  split at e
  · obtain ⟨v, rfl, p⟩ := ps.one
    simp only [Option.map_eq_some_iff] at e
    obtain ⟨bs, hb, rfl⟩ := e
    obtain ⟨a, ws, rfl, h1, r1⟩ := p.lst rep
    have ew := bls_rv hb r1
    subst ew
    exact ⟨a, bs, rfl, .inl h1, g.val rep (.bl _)⟩
  · cases e
theorem gSum_ok : CbD K (rSum K) gSum := by
  intro F B Hs S σ H ds vs r Q rep ps e g
  unfold gSum at e
  split at e
  · obtain ⟨v, rfl, p⟩ := ps.one
    simp only [Option.map_eq_some_iff] at e
    obtain ⟨bs, hb, rfl⟩ := e
    obtain ⟨a, ws, rfl, h1, r1⟩ := p.lst rep
    have ew := ints_rv hb r1
    subst ew
    exact ⟨a, bs, rfl, .inl h1, g.val rep (.int _)⟩
  · cases e
end

/-! ### isinstance -/
def tyN : D → Option String
  | .non => some "NoneType"
  | .bl _ => some "bool"
  | .int _ => some "int"
  | .str _ => some "str"
  | .lst _ => some "list"
  | .tup _ => some "tuple"
  | .dct _ _ => some "dict"
  | _ => none
/-- of one of these classes? (kitB: the library's table) -/
def isAny (t : String) : List String → Option Bool
  | [] => some false
  | T :: Ts => match kitB t T with
    | some true => some true
    | some false => isAny t Ts
    | none => none
def gIsi (Ts : List String) (d : D) : Option R := (tyN d).bind fun t => (isAny t Ts).map fun b => .val (.bl b)
section
variable {K : PySem.W.Frag} {F : Hp} {B : List V} {Hs : Hp} {S : Env} {σ : St} {H : Hp} {d : D} {v : V} {t : String}
theorem tyX_of (rep : Rep K F B Hs S σ H) (p : PV K Hs H d v) (e : tyN d = some t) : TyX K H v (.type t) := by
  have r := p.rv rep
  cases r with
  | non => cases e; exact .base .non
  | bl b => cases e; exact .base (.bl b)
  | int b => cases e; exact .base (.int b)
  | str b => cases e; exact .base (.str b)
  | lst h _ => cases e; exact .base (.lst h)
  | tup h _ =>
    cases e
    rcases h with (h | ⟨o, h⟩) | ⟨o, its, n, h1, h2, _⟩
    · exact .base (.tup h)
    · exact .fTuple h
    · exact .kTuple h1 h2
  | scr h _ => cases e
  | dct h _ _ =>
    cases e
    rcases h with h | ⟨o, h⟩
    · exact .base (.dK h)
    · exact .fDict h
theorem isAny_kit {Ts : List String} {b : Bool} : isAny t Ts = some b → PySem.W.kitAny K (.type t) (Ts.map Value.type) = some b := by
  induction Ts with
  | nil => intro e; cases e; rfl
  | cons T Ts ih =>
    intro e
    unfold isAny at e
    split at e
    · rename_i h
      cases e
      exact kitAny_cons (kit_ty h) (fun z => nomatch z) (fun _ => rfl)
    · rename_i h
      exact kitAny_cons (kit_ty h) (fun _ => ih e) (fun z => nomatch z)
    · cases e
end
section
variable {X : Cx} {W : WX} {C : Cc} {a : Expr} {fa : Sm} {p p1 p2 p3 pos : Pos}
theorem k_isi1 {T : Str} {Tn : String} (ha : PE X a (Eof X W C fa)) (hg : Gl X "isinstance") (hm : X.mg "isinstance" = none) (hgT : Gl X T) (hmT : X.mg T = none) (hvT : bootBuiltins T = some (.type Tn)) (hnT : T ≠ "__name__") (hdT : (T == ("__debug__" : Str)) = false)
    (he : starEach [a, .Name T p1] X.env = (false, eval a X.env) :: starEach [.Name T p1] X.env) : PE X (.Call (.Name "isinstance" p) [a, .Name T p1] [] pos) (Eof X W C (sOp1 (gIsi [Tn]) fa)) := by
  refine PE.wk (pe_callB call_isi hg hm boot_isinstance (pa_cons ha (pa_cons (pe_bltn (v := .ty Tn) hgT hmT hvT rfl hnT hdT) pa_nil (by rfl)) he) (by decide) (by decide) he (by rfl)) fun σ H Q h => ?_
  refine op1_ok (r1 := fun x H Q => rIsi X.K [x, .ty Tn] H Q) (g := gIsi [Tn]) (fun {F B Hs S σ H d x r Q} rep p e g => ?_) h
  unfold gIsi at e
  simp only [Option.bind_eq_some_iff, Option.map_eq_some_iff] at e
  obtain ⟨t, ht, b, hb, rfl⟩ := e
  refine ⟨x, .ty Tn, .type t, .type Tn, b, rfl, .ty Tn, tyX_of rep p ht, ?_, g.val rep (.bl _)⟩
  unfold isAny at hb
  split at hb
  · rename_i h; cases hb; exact kit_ty h
  · rename_i h; cases hb; exact kit_ty h
  · cases hb
theorem k_isi2 {T U : Str} {Tn Un : String} {x1 : Nat} (ha : PE X a (Eof X W C fa)) (hg : Gl X "isinstance") (hm : X.mg "isinstance" = none) (hgT : Gl X T) (hmT : X.mg T = none) (hvT : bootBuiltins T = some (.type Tn)) (hnT : T ≠ "__name__") (hdT : (T == ("__debug__" : Str)) = false)
    (hgU : Gl X U) (hmU : X.mg U = none) (hvU : bootBuiltins U = some (.type Un)) (hnU : U ≠ "__name__") (hdU : (U == ("__debug__" : Str)) = false)
    (he : starEach [a, .Tuple [.Name T p1, .Name U p2] x1 p3] X.env = (false, eval a X.env) :: starEach [.Tuple [.Name T p1, .Name U p2] x1 p3] X.env) : PE X (.Call (.Name "isinstance" p) [a, .Tuple [.Name T p1, .Name U p2] x1 p3] [] pos) (Eof X W C (sOp1 (gIsi [Tn, Un]) fa)) := by
  refine PE.wk (pe_callB call_isiT hg hm boot_isinstance (pa_cons ha (pa_cons (pe_tup (pa_cons (pe_bltn (v := .ty Tn) hgT hmT hvT rfl hnT hdT) (pa_cons (pe_bltn (v := .ty Un) hgU hmU hvU rfl hnU hdU) pa_nil (by rfl)) (by rfl))) pa_nil (by rfl)) he) (by decide) (by decide) he (by rfl)) fun σ H Q h => ?_
  refine op1_ok (r1 := fun x H Q => (2 : Nat) ≤ sizeLine ∧ ∀ p, H p = none → rIsiT X.K [x, .ref p] (upd H p (.tup [.ty Tn, .ty Un])) Q) (g := gIsi [Tn, Un]) (fun {F B Hs S σ H d x r Q} rep p e g => ?_) h
  unfold gIsi at e
  simp only [Option.bind_eq_some_iff, Option.map_eq_some_iff] at e
  obtain ⟨t, ht, b, hb, rfl⟩ := e
  refine ⟨by rw [sizeLine_eq]; decide, fun q hq => ?_⟩
  have rep' := rep.new (o := .tup [.ty Tn, .ty Un]) hq
  have p' : PV X.K Hs (upd H q (.tup [.ty Tn, .ty Un])) d x := by
    rcases p with p | ⟨a, o, e1, e2, e3⟩
    · exact .inl p
    · exact .inr ⟨a, o, e1, by rw [upd_ne (ne_of_none e2 hq)]; exact e2, e3⟩
  exact ⟨x, q, [.ty Tn, .ty Un], .type t, [.type Tn, .type Un], b, rfl, upd_same, .cons (.ty _) (.cons (.ty _) .nil), tyX_of rep' p' ht, isAny_kit hb, g.val rep' (.bl _)⟩
end
end Kn

/-! Kn6 -/
/-! Kn part 6: methods, stores, dict displays. -/
namespace Kn
open PySem PySem.Spec PyProof.Rows L2

/-! ### methods of texts -/
section
variable {X : Cx} {W : WX} {C : Cc} {o e : Expr} {fo fe : Sm} {apos pos : Pos}
def strG (g : Str → Option R) : D → Option R
  | .str a => g a
  | _ => none
def strG2 (g : Str → D → Option R) : D → D → Option R
  | .str a, d => g a d
  | _, _ => none
/-- s.m() -/
theorem k_m0 {id : String} {name : Str} {r1 : V → List V → Hp → VK → Prop} {g : Str → Option R} (slot : PySem.Slot "str" name id) (ty : typeOf (.builtin id) = pure (.type "method_descriptor")) (rule : MtR X id r1)
    (og : OpD1 X.K (fun x H Q => r1 x [] H Q) (strG g)) (ho : PE X o (Eof X W C fo)) (hbase : attributeBase o name X.env (eval o X.env) = eval o X.env) (hline : (apos.endLine == pos.line) = true) :
    PE X (.Call (.Attribute o name apos) [] [] pos) (Eof X W C (sOp1 (strG g) fo)) := by
  refine PE.wk (pe_m0 slot ty rule ho hbase hline) fun σ H Q h => ?_
  refine op1_ok (r1 := fun x H Q => (∃ a, x = .str a) ∧ r1 x [] H Q) (g := strG g) (fun {F B Hs S σ H d x r Q} rep p e g => ⟨?_, og rep p e g⟩) h
  cases d with
  | str a => exact ⟨a, p.str⟩
  | _ => cases e
/-- s.m(e): the text is known at once -/
def sMt (g : Str → D → Option R) (fo fe : Sm) : Sm := fun C S => (fo C S).bind fun r1 S1 => match r1 with
  | .val (.str a) => (fe C S1).bind fun r2 S2 => match pk r2 S2 with
    | some d => (match g a d with
      | some r => .ok r S2
      | none => .bad)
    | none => .bad
  | _ => .bad
theorem k_m1 {id : String} {name : Str} {r1 : V → List V → Hp → VK → Prop} {g : Str → D → Option R} (slot : PySem.Slot "str" name id) (ty : typeOf (.builtin id) = pure (.type "method_descriptor")) (rule : MtR X id r1)
    (og : ∀ a, OpD1 X.K (fun x H Q => r1 (.str a) [x] H Q) (g a)) (ho : PE X o (Eof X W C fo)) (he : PE X e (Eof X W C fe)) (hs : starEach [e] X.env = [(false, eval e X.env)]) (hbase : attributeBase o name X.env (eval o X.env) = eval o X.env) (hline : (apos.endLine == pos.line) = true) :
    PE X (.Call (.Attribute o name apos) [e] [] pos) (Eof X W C (sMt g fo fe)) := by
  refine PE.wk (pe_m1 slot ty rule ho he hs hbase hline) fun σ H Q ⟨F, B, Hs, S, rep, fin⟩ => ?_
  refine eof_bind rep fin.to _ fun rr1 S1 v1 H1 Hs1 s1 rep1 rr fin1 => ?_
  split at fin1
  · rename_i a
    cases rr
    refine ⟨⟨a, rfl⟩, ?_⟩
    refine eof_bind rep1 fin1 _ fun r2 S2 v2 H2 Hs2 s2 rep2 rr2 fin2 => ?_
    obtain ⟨Hs2', s2', rep2', rw2⟩ := unfr_ok rep2 rr2
    rw [← pk_unfr (r := r2)] at fin2
    cases e2 : pk (unfr r2) S2 with
    | none => rw [e2] at fin2; exact fin2.elim
    | some d2 =>
      rw [e2] at fin2
      simp only at fin2
      cases e3 : g a d2 with
      | none => rw [e3] at fin2; exact fin2.elim
      | some r =>
        rw [e3] at fin2
        exact og a rep2' (pk_ok rep2' rw2 e2) e3 fun v H' Hs' s' rep' rr' => fin2 H' Hs' (s2'.trans s') rep' v rr'
  · exact fin1.elim
end
def gJoin (a : Str) : D → Option R
  | .lst ds => (asStrs ds).bind fun ys => if (ys.map (·.length)).sum + ys.length * a.length ≤ 16777216 then some (.val (.str (Txt.join a ys))) else none
  | .tup ds => (asStrs ds).bind fun ys => if (ys.map (·.length)).sum + ys.length * a.length ≤ 16777216 then some (.val (.str (Txt.join a ys))) else none
  | _ => none
def gSplit (a : Str) : D → Option R
  | .str b => if (b.length == 0) = false ∧ a.length + 2 ≤ 16777216 then some (.fr (.lst ((Txt.split a b).map .str))) else none
  | _ => none
def gIsalnum (a : Str) : Option R := some (.val (.bl (Txt.isalnum a)))
def gStarts (a : Str) : D → Option R
  | .str b => some (.val (.bl (Txt.startswith a b)))
  | _ => none
def gUnpre (a : Str) : D → Option R
  | .str b => if a.length ≤ 16777216 then some (.val (.str (Txt.removeprefix a b))) else none
  | _ => none
section
variable {K : PySem.W.Frag}
theorem RVs.strs {H : Hp} : ∀ l : List Str, RVs K H (l.map .str) (l.map V.str)
  | [] => .nil
  | x :: l => .cons (.str x) (RVs.strs l)
theorem gJoin_ok (a : Str) : OpD1 K (fun x H Q => ∃ a' p, ∃ ys : List Str, V.str a = .str a' ∧ [x] = [.ref p] ∧ (SqL K H p (ys.map V.str) ∨ SqT K H p (ys.map V.str)) ∧ (ys.map (·.length)).sum + ys.length * a'.length ≤ 16777216 ∧ Q (.str (Txt.join a' ys)) H) (gJoin a) := by
  intro F B Hs S σ H d x r Q rep p e g
  unfold gJoin at e
  split at e
  · simp only [Option.bind_eq_some_iff] at e
    obtain ⟨ys, h1, e⟩ := e
    split at e
    · rename_i hz
      cases e
      obtain ⟨b, ws, rfl, h2, r1⟩ := p.lstE rep
      have ew := strs_rv h1 r1
      subst ew
      exact ⟨a, b, ys, rfl, rfl, .inl (SqL.of h2), hz, g.val rep (.str _)⟩
    · cases e
  · simp only [Option.bind_eq_some_iff] at e
    obtain ⟨ys, h1, e⟩ := e
    split at e
    · rename_i hz
      cases e
      obtain ⟨b, ws, rfl, h2, _, r1⟩ := p.tup rep
      have ew := strs_rv h1 r1
      subst ew
      exact ⟨a, b, ys, rfl, rfl, .inr h2, hz, g.val rep (.str _)⟩
    · cases e
  · cases e
theorem gSplit_ok (a : Str) : OpD1 K (fun x H Q => ∃ a' b, V.str a = .str a' ∧ [x] = [.str b] ∧ (b.length == 0) = false ∧ a'.length + 2 ≤ sizeLine ∧ rNewStrs (Txt.split a' b) H Q) (gSplit a) := by
  intro F B Hs S σ H d x r Q rep p e g
  unfold gSplit at e
  split at e
  · split at e
    · rename_i hz
      cases e
      obtain rfl := p.str
      exact ⟨a, _, rfl, rfl, hz.1, by rw [sizeLine_eq]; exact hz.2, fun q hq => g.fr rep hq (.lst (RVs.strs _))⟩
    · cases e
  · cases e
theorem gIsalnum_ok : OpD1 K (fun x H Q => ∃ a, x = .str a ∧ ([] : List V) = [] ∧ True ∧ Q (.bl (Txt.isalnum a)) H) (strG gIsalnum) := by
  intro F B Hs S σ H d x r Q rep p e g
  unfold strG at e
  split at e
  · cases e
    obtain rfl := p.str
    exact ⟨_, rfl, rfl, trivial, g.val rep (.bl _)⟩
  · cases e
theorem gStarts_ok (a : Str) : OpD1 K (fun x H Q => ∃ a' b, V.str a = .str a' ∧ [x] = [.str b] ∧ Q (.bl (Txt.startswith a' b)) H) (gStarts a) := by
  intro F B Hs S σ H d x r Q rep p e g
  unfold gStarts at e
  split at e
  · cases e
    obtain rfl := p.str
    exact ⟨a, _, rfl, rfl, g.val rep (.bl _)⟩
  · cases e
theorem gUnpre_ok (a : Str) : OpD1 K (fun x H Q => ∃ a' b, V.str a = .str a' ∧ [x] = [.str b] ∧ a'.length ≤ sizeLine ∧ Q (.str (Txt.removeprefix a' b)) H) (gUnpre a) := by
  intro F B Hs S σ H d x r Q rep p e g
  unfold gUnpre at e
  split at e
  · split at e
    · rename_i hz
      cases e
      obtain rfl := p.str
      exact ⟨a, _, rfl, rfl, by rw [sizeLine_eq]; exact hz, g.val rep (.str _)⟩
    · cases e
  · cases e
end

/-! ### own things changed -/
def lstAt (S : Env) (i : Nat) : Option (List D) := match S[i]? with
  | some (.own (.lst ds)) => some ds
  | some (.bor (.lst ds)) => some ds
  | _ => none
def dctAt (S : Env) (i : Nat) : Option (List Key × List D) := match S[i]? with
  | some (.own (.dct ks ds)) => some (ks, ds)
  | some (.bor (.dct ks ds)) => some (ks, ds)
  | _ => none
def setAt (S : Env) (i : Nat) (d : D) : Env := match S[i]? with
  | some (.own _) => S.set i (.own d)
  | some (.bor _) => S.set i (.bor d)
  | _ => S
section
variable {K : PySem.W.Frag} {F : Hp} {B : List V} {Hs : Hp} {S : Env} {σ : St} {H : Hp}
theorem setAt_ok (rep : Rep K F B Hs S σ H) {i : Nat} {s : Slot} {d d' : D} {a : Addr} {o : HO} (e : S[i]? = some s) (m : s.mut = some d) (ea : σ[i]? = some (some (.ref a))) (n : NodeR K Hs d' o) : Rep K F B Hs (setAt S i d') σ (upd H a o) := by
  unfold setAt
  rw [e]
  cases s with
  | own z => exact rep.change (s' := .own d') e m rfl (fun ⟨_, q⟩ => nomatch q) ea n
  | bor z => exact rep.change (s' := .bor d') e m rfl (fun _ => ⟨z, rfl⟩) ea n
  | non => cases m
  | val z => cases m
theorem lstAt_ok (rep : Rep K F B Hs S σ H) {i : Nat} {ds : List D} (e : lstAt S i = some ds) : ∃ a vs, σ[i]? = some (some (.ref a)) ∧ H a = some (.lst vs) ∧ RVs K Hs ds vs ∧ ∀ ds' vs', RVs K Hs ds' vs' → Rep K F B Hs (setAt S i (.lst ds')) σ (upd H a (.lst vs')) := by
  have key : ∃ s, S[i]? = some s ∧ s.mut = some (.lst ds) := by
    unfold lstAt at e
    split at e
    · rename_i h; cases e; exact ⟨_, h, rfl⟩
    · rename_i h; cases e; exact ⟨_, h, rfl⟩
    · cases e
  obtain ⟨s, h, m⟩ := key
  obtain ⟨a, o, e1, e2, e3, e4, e5⟩ := rep.own i s _ h m
  cases e5 with
  | lst r => exact ⟨a, _, e1, e4, r, fun ds' vs' r' => setAt_ok rep h m e1 (.lst r')⟩
theorem dctAt_ok (rep : Rep K F B Hs S σ H) {i : Nat} {ks : List Key} {ds : List D} (e : dctAt S i = some (ks, ds)) : ∃ a kvs, σ[i]? = some (some (.ref a)) ∧ H a = some (.dK kvs) ∧ ks = kvs.map (·.1) ∧ RVs K Hs ds (kvs.map (·.2)) ∧
    ∀ (ks' : List Key) (ds' : List D) (kvs' : List (Key × V)), ks' = kvs'.map (·.1) → RVs K Hs ds' (kvs'.map (·.2)) → Rep K F B Hs (setAt S i (.dct ks' ds')) σ (upd H a (.dK kvs')) := by
  have key : ∃ s, S[i]? = some s ∧ s.mut = some (.dct ks ds) := by
    unfold dctAt at e
    split at e
    · rename_i h; cases e; exact ⟨_, h, rfl⟩
    · rename_i h; cases e; exact ⟨_, h, rfl⟩
    · cases e
  obtain ⟨s, h, m⟩ := key
  obtain ⟨a, o, e1, e2, e3, e4, e5⟩ := rep.own i s _ h m
  cases e5 with
  | dct q r => exact ⟨a, _, e1, e4, q, r, fun ks' ds' kvs' q' r' => setAt_ok rep h m e1 (.dct q' r')⟩
end
section
variable {X : Cx} {W : WX} {C : Cc} {e : Expr} {f : Sm} {i : Nat} {x : Str} {p apos pos : Pos}
def sApp (i : Nat) (f : Sm) : Sm := fun C S => match lstAt S i with
  | some _ => (sFz f C S).bind fun d S1 => match lstAt S1 i with
    | some ds => if ds.length < 16777216 then .ok (.val .non) (setAt S1 i (.lst (ds ++ [d]))) else .bad
    | none => .bad
  | none => .bad
theorem fz_bind {f : Sm} {F : Hp} {B : List V} {Hs : Hp} {S : Env} {σ : St} {H : Hp} {α : Type} {P : α → Env → Hp → Hp → Prop} {k : D → Env → O α} (rep : Rep X.K F B Hs S σ H) (h : FinA X.K X.mg W F B Hs σ P ((sFz f C S).bind k)) (Q1 : VK)
    (next : ∀ d S1 v H1 Hs1, Same Hs Hs1 → Rep X.K F B Hs1 S1 σ H1 → RV X.K Hs1 d v → FinA X.K X.mg W F B Hs1 σ P (k d S1) → Q1 v H1) : Eof X W C f σ H Q1 := by
  unfold sFz at h
  rw [O.bind_assoc] at h
  refine eof_bind rep h _ fun r S1 v H1 Hs1 s1 rep1 rr fin1 => ?_
  cases e1 : freeze r S1 with
  | none => rw [e1] at fin1; exact fin1.elim
  | some q =>
    obtain ⟨d, S2⟩ := q
    rw [e1] at fin1
    obtain ⟨Hs2, s2, rep2, rv⟩ := freeze_ok rep1 rr e1
    exact next d S2 v H1 Hs2 (s1.trans s2) rep2 rv (fin1.later s2)
theorem k_append (hN : X.N[i]? = some x) (hv : Vis X.env.scope x) (hd : (x == ("__debug__" : Str)) = false) (hcd : (x == ("__classdict__" : Str)) = false) (he : PE X e (Eof X W C f)) (hbase : attributeBase (.Name x p) "append" X.env (eval (.Name x p) X.env) = eval (.Name x p) X.env)
    (hfew : ((backTo pos (starEach [e] X.env)).all (fun x => !x.1) && (backToKw pos (keywordEach [] X.env)).all (fun x => x.1.isSome) && decide ([e].length + ([] : List Keyword).length + (if ([] : List Keyword).isEmpty then 0 else 1) < 30)) = true)
    (hline : (apos.endLine == pos.line) = true) (hs : starEach [e] X.env = (false, eval e X.env) :: starEach [] X.env) : PE X (.Call (.Attribute (.Name x p) "append" apos) [e] [] pos) (Eof X W C (sApp i f)) := by
  refine PE.wk (pe_bm PySem.F.plainAttrs_list PySem.F.slot_list_append PySem.F.type_list_append mt_append (pe_var hN hv hd hcd) (pa_cons he pa_nil hs) hbase hfew hline hs (by rfl)) fun σ H Q ⟨F, B, Hs, S, rep, fin⟩ => ?_
  unfold sApp at fin
  cases e0 : lstAt S i with
  | none => rw [e0] at fin; exact fin.elim
  | some ds0 =>
    rw [e0] at fin
    obtain ⟨a, vs0, ea, h0, _, _⟩ := lstAt_ok rep e0
    refine ⟨_, ea, .inl ⟨rfl, vs0, SqL.of h0⟩, ?_⟩
    refine fz_bind rep fin.to _ fun d S1 v H1 Hs1 s1 rep1 rv fin1 => ?_
    cases e1 : lstAt S1 i with
    | none => rw [e1] at fin1; exact fin1.elim
    | some ds =>
      rw [e1] at fin1
      (try simp only at fin1)
      by_cases c : ds.length < 16777216
      · rw [if_pos c] at fin1
        obtain ⟨a', vs, ea', h1, r1, k1⟩ := lstAt_ok rep1 e1
        rw [ea] at ea'
        cases ea'
        exact ⟨a, vs, v, rfl, rfl, h1, by rw [sizeLine_eq, ← r1.length]; exact c, fin1 _ _ (.refl _) (k1 _ _ (r1.append (.cons rv .nil))) _ .non⟩
      · rw [if_neg c] at fin1; exact fin1.elim
/-- x.extend(e), e a list -/
def sExt (i : Nat) (f : Sm) : Sm := fun C S => match lstAt S i with
  | some _ => (sFz f C S).bind fun d S1 => match lstAt S1 i, d with
    | some ds, .lst es => if ds.length + es.length ≤ 16777216 then .ok (.val .non) (setAt S1 i (.lst (ds ++ es))) else .bad
    | _, _ => .bad
  | none => .bad
theorem k_extend (hN : X.N[i]? = some x) (hv : Vis X.env.scope x) (hd : (x == ("__debug__" : Str)) = false) (hcd : (x == ("__classdict__" : Str)) = false) (he : PE X e (Eof X W C f)) (hbase : attributeBase (.Name x p) "extend" X.env (eval (.Name x p) X.env) = eval (.Name x p) X.env)
    (hfew : ((backTo pos (starEach [e] X.env)).all (fun x => !x.1) && (backToKw pos (keywordEach [] X.env)).all (fun x => x.1.isSome) && decide ([e].length + ([] : List Keyword).length + (if ([] : List Keyword).isEmpty then 0 else 1) < 30)) = true)
    (hline : (apos.endLine == pos.line) = true) (hs : starEach [e] X.env = (false, eval e X.env) :: starEach [] X.env) : PE X (.Call (.Attribute (.Name x p) "extend" apos) [e] [] pos) (Eof X W C (sExt i f)) := by
  refine PE.wk (pe_bm PySem.F.plainAttrs_list PySem.F.slot_list_extend PySem.F.type_list_extend mt_extend (pe_var hN hv hd hcd) (pa_cons he pa_nil hs) hbase hfew hline hs (by rfl)) fun σ H Q ⟨F, B, Hs, S, rep, fin⟩ => ?_
  unfold sExt at fin
  cases e0 : lstAt S i with
  | none => rw [e0] at fin; exact fin.elim
  | some ds0 =>
    rw [e0] at fin
    obtain ⟨a, vs0, ea, h0, _, _⟩ := lstAt_ok rep e0
    refine ⟨_, ea, .inl ⟨rfl, vs0, SqL.of h0⟩, ?_⟩
    refine fz_bind rep fin.to _ fun d S1 v H1 Hs1 s1 rep1 rv fin1 => ?_
    cases e1 : lstAt S1 i with
    | none => rw [e1] at fin1; exact fin1.elim
    | some ds =>
      rw [e1] at fin1
      (try simp only at fin1)
      cases d with
      | lst es =>
        (try simp only at fin1)
        by_cases c : ds.length + es.length ≤ 16777216
        · rw [if_pos c] at fin1
          obtain ⟨a', vs, ea', h1, r1, k1⟩ := lstAt_ok rep1 e1
          rw [ea] at ea'
          cases ea'
          cases rv with
          | @lst b us _ hb ru =>
            exact ⟨a, b, vs, us, rfl, rfl, h1, rep1.sub _ _ hb, by rw [sizeLine_eq, ← r1.length, ← ru.length]; exact c, fin1 _ _ (.refl _) (k1 _ _ (r1.append ru)) _ .non⟩
        · rw [if_neg c] at fin1; exact fin1.elim
      | _ => exact fin1.elim
/-- x.pop(e) -/
def sPopAt (i : Nat) (f : Sm) : Sm := fun C S => match lstAt S i with
  | some _ => (sFz f C S).bind fun d S1 => match lstAt S1 i, d with
    | some ds, .int j => if j.natAbs < 9223372036854775808 then (match seqIndex? j ds.length with
      | some k => (match ds[k]? with
        | some y => .ok (.val y) (setAt S1 i (.lst (ds.eraseIdx k)))
        | none => .bad)
      | none => .bad) else .bad
    | _, _ => .bad
  | none => .bad
theorem k_popAt (hN : X.N[i]? = some x) (hv : Vis X.env.scope x) (hd : (x == ("__debug__" : Str)) = false) (hcd : (x == ("__classdict__" : Str)) = false) (he : PE X e (Eof X W C f)) (hbase : attributeBase (.Name x p) "pop" X.env (eval (.Name x p) X.env) = eval (.Name x p) X.env)
    (hfew : ((backTo pos (starEach [e] X.env)).all (fun x => !x.1) && (backToKw pos (keywordEach [] X.env)).all (fun x => x.1.isSome) && decide ([e].length + ([] : List Keyword).length + (if ([] : List Keyword).isEmpty then 0 else 1) < 30)) = true)
    (hline : (apos.endLine == pos.line) = true) (hs : starEach [e] X.env = (false, eval e X.env) :: starEach [] X.env) : PE X (.Call (.Attribute (.Name x p) "pop" apos) [e] [] pos) (Eof X W C (sPopAt i f)) := by
  refine PE.wk (pe_bm PySem.F.plainAttrs_list PySem.F.slot_list_pop PySem.F.type_list_pop mt_popAt (pe_var hN hv hd hcd) (pa_cons he pa_nil hs) hbase hfew hline hs (by rfl)) fun σ H Q ⟨F, B, Hs, S, rep, fin⟩ => ?_
  unfold sPopAt at fin
  cases e0 : lstAt S i with
  | none => rw [e0] at fin; exact fin.elim
  | some ds0 =>
    rw [e0] at fin
    obtain ⟨a, vs0, ea, h0, _, _⟩ := lstAt_ok rep e0
    refine ⟨_, ea, .inl ⟨rfl, vs0, SqL.of h0⟩, ?_⟩
    refine fz_bind rep fin.to _ fun d S1 v H1 Hs1 s1 rep1 rv fin1 => ?_
    cases e1 : lstAt S1 i with
    | none => rw [e1] at fin1; exact fin1.elim
    | some ds =>
      rw [e1] at fin1
      (try simp only at fin1)
      cases d with
      | int j =>
        (try simp only at fin1)
        by_cases c : j.natAbs < 9223372036854775808
        · rw [if_pos c] at fin1
          obtain ⟨a', vs, ea', h1, r1, k1⟩ := lstAt_ok rep1 e1
          rw [ea] at ea'
          cases ea'
          cases rv
          cases e2 : seqIndex? j ds.length with
          | none => rw [e2] at fin1; exact fin1.elim
          | some k =>
            rw [e2] at fin1
            (try simp only at fin1)
            cases e3 : ds[k]? with
            | none => rw [e3] at fin1; exact fin1.elim
            | some y =>
              rw [e3] at fin1
              obtain ⟨w, hw, rw'⟩ := r1.get e3
              exact ⟨a, vs, j, k, w, rfl, rfl, h1, by omega, by omega, by rw [← r1.length]; exact e2, hw, fin1 _ _ (.refl _) (k1 _ _ (r1.eraseIdx k)) _ rw'⟩
        · rw [if_neg c] at fin1; exact fin1.elim
      | _ => exact fin1.elim
/-- x.pop() -/
def sPop (i : Nat) : Sm := fun C S => match lstAt S i with
  | some ds => (match ds[ds.length - 1]? with
    | some y => .ok (.val y) (setAt S i (.lst ds.dropLast))
    | none => .bad)
  | none => .bad
theorem RVs.dropLast {K : PySem.W.Frag} {H : Hp} {ds : List D} {vs : List V} (r : RVs K H ds vs) : RVs K H ds.dropLast vs.dropLast := by
  rw [List.dropLast_eq_take, List.dropLast_eq_take, r.length]
  exact r.take _
theorem k_pop (hN : X.N[i]? = some x) (hv : Vis X.env.scope x) (hd : (x == ("__debug__" : Str)) = false) (hcd : (x == ("__classdict__" : Str)) = false) (hbase : attributeBase (.Name x p) "pop" X.env (eval (.Name x p) X.env) = eval (.Name x p) X.env)
    (hline : (apos.endLine == pos.line) = true) : PE X (.Call (.Attribute (.Name x p) "pop" apos) [] [] pos) (Eof X W C (sPop i)) := by
  refine PE.wk (pe_bm0 PySem.F.plainAttrs_list PySem.F.slot_list_pop PySem.F.type_list_pop mt_pop (pe_var hN hv hd hcd) hbase hline) fun σ H Q ⟨F, B, Hs, S, rep, fin⟩ => ?_
  unfold sPop at fin
  cases e0 : lstAt S i with
  | none => rw [e0] at fin; exact fin.elim
  | some ds =>
    rw [e0] at fin
    obtain ⟨a, vs, ea, h0, r0, k0⟩ := lstAt_ok rep e0
    refine ⟨_, ea, .inl ⟨rfl, vs, SqL.of h0⟩, ?_⟩
    simp only at fin
    cases e3 : ds[ds.length - 1]? with
    | none => rw [e3] at fin; exact fin.elim
    | some y =>
      rw [e3] at fin
      obtain ⟨w, hw, rw'⟩ := r0.get e3
      exact ⟨a, vs, w, rfl, rfl, h0, by rw [← r0.length]; exact hw, fin _ _ _ (.refl _) (k0 _ _ r0.dropLast) rw'⟩
end

/-! ### {k: v, ..} -/
section
variable {X : Cx} {W : WX} {C : Cc}
/-- the pairs of a display: written keys, values -/
def DPs (X : Cx) (W : WX) (C : Cc) (pos : Pos) (keys : List (Option Expr)) (values : List Expr) (ks : List Key) (f : Sl) : Prop :=
  ∃ trs, PPs X pos keys values trs ∧ ∀ (σ : St) (H : Hp) (Q : List (V × V) → Hp → Prop), Lof X W C f σ H (fun vs H' => Q ((ks.zip vs).map fun p => (kV p.1, p.2)) H') → tPairs trs σ H Q
theorem d_nil {pos : Pos} : DPs X W C pos [] [] [] sNil := ⟨[], pps_nil, fun σ H Q ⟨F, B, Hs, S, rep, fin⟩ => fin H Hs (.refl _) rep [] .nil⟩
theorem d_cons {pos : Pos} {k v : Expr} {ks : List (Option Expr)} {vs : List Expr} {kk : Key} {kks : List Key} {f : Sm} {g : Sl} (hk : PE X k (tC (kV kk))) (hv : PE X v (Eof X W C f)) (h : DPs X W C pos ks vs kks g) : DPs X W C pos (some k :: ks) (v :: vs) (kk :: kks) (sCons f g) := by
  obtain ⟨trs, h1, h2⟩ := h
  refine ⟨_, pps_cons hk hv h1, fun σ H Q ⟨F, B, Hs, S, rep, fin⟩ => ?_⟩
  refine fz_bind rep fin _ fun d S1 v H1 Hs1 s1 rep1 rv fin1 => ?_
  refine h2 σ H1 _ ⟨F, B, Hs1, S1, rep1, ?_⟩
  cases e2 : g C S1 with
  | ok ds S3 =>
    rw [e2] at fin1
    exact fun H3 Hs3 s3 rep3 vs rvs => fin1 H3 Hs3 s3 rep3 (v :: vs) (.cons (rv.mono s3) rvs)
  | ex c ns ds S3 => rw [e2] at fin1; exact fin1
  | bad => rw [e2] at fin1; exact fin1.elim
def sDisp (ks : List Key) (f : Sl) : Sm := fun C S => (f C S).bind fun ds S1 => if ks.length = ds.length ∧ ks.Nodup ∧ ks.length ≤ 15 then .ok (.fr (.dct ks ds)) S1 else .bad
theorem merge_nodup : ∀ (more kvs : List (Key × V)), ((kvs ++ more).map (·.1)).Nodup → mergeK kvs more = kvs ++ more
  | [], kvs, _ => (List.append_nil kvs).symm
  | p :: more, kvs, h => by
    have e : putK kvs p.1 p.2 = kvs ++ [p] := by
      refine putK_new _ ?_
      cases q : valV kvs p.1 with
      | none => rfl
      | some v =>
        exfalso
        have h1 := valV_in q
        rw [List.map_append, List.nodup_append] at h
        exact h.2.2 _ h1 _ List.mem_cons_self rfl
    show mergeK (putK kvs p.1 p.2) more = _
    rw [e, merge_nodup more _ (by rw [List.append_assoc]; exact h), List.append_assoc]
    rfl
theorem zip_fst : ∀ {ks : List Key} {vs : List V}, ks.length = vs.length → (ks.zip vs).map (·.1) = ks
  | [], [], _ => rfl
  | k :: ks, v :: vs, h => by rw [List.zip_cons_cons, List.map_cons, zip_fst (by simpa using h)]
theorem zip_snd : ∀ {ks : List Key} {vs : List V}, ks.length = vs.length → (ks.zip vs).map (·.2) = vs
  | [], [], _ => rfl
  | k :: ks, v :: vs, h => by rw [List.zip_cons_cons, List.map_cons, zip_snd (by simpa using h)]
/-- another one's object is protected -/
theorem Rep.guard {K : PySem.W.Frag} {F : Hp} {B : List V} {Hs : Hp} {S : Env} {σ : St} {H : Hp} (r : Rep K F B Hs S σ H) {p : Addr} {o : HO} (h : H p = some o) (hs : Hs p = none) (ha : Apart S σ p) : Rep K (upd F p o) B Hs S σ H := by
  refine ⟨r.sub, fun b u e => ?_, fun b u e => ?_, r.len, r.val, fun i s d e m => ?_, r.bor, r.inj⟩
  · by_cases hb : b = p
    · subst hb; rw [upd_same] at e; cases e; exact h
    · rw [upd_ne hb] at e; exact r.frm _ _ e
  · have hb : b ≠ p := fun z => by rw [z, hs] at e; cases e
    rw [upd_ne hb]; exact r.dis _ _ e
  · obtain ⟨a, o', e1, e2, e3, e4, e5⟩ := r.own i s d e m
    have ne : a ≠ p := fun z => ha i s e (by rw [m]; rfl) (by rw [← z]; exact e1)
    exact ⟨a, o', e1, e2, by rw [upd_ne ne]; exact e3, e4, e5⟩
theorem Rep.unguard {K : PySem.W.Frag} {F : Hp} {B : List V} {Hs : Hp} {S : Env} {σ : St} {H : Hp} {p : Addr} {o : HO} (r : Rep K (upd F p o) B Hs S σ H) (hf : F p = none) : Rep K F B Hs S σ H ∧ H p = some o ∧ Hs p = none ∧ Apart S σ p := by
  refine ⟨⟨r.sub, fun b u e => r.frm _ _ (by rw [upd_ne (ne_of_none e hf)]; exact e), fun b u e => ?_, r.len, r.val, fun i s d e m => ?_, r.bor, r.inj⟩, r.frm _ _ upd_same, ?_, fun i s e m q => ?_⟩
  · have h := r.dis _ _ e
    by_cases hb : b = p
    · rw [hb]; exact hf
    · rw [upd_ne hb] at h; exact h
  · obtain ⟨a, o', e1, e2, e3, e4, e5⟩ := r.own i s d e m
    refine ⟨a, o', e1, e2, ?_, e4, e5⟩
    by_cases hb : a = p
    · rw [hb]; exact hf
    · rw [upd_ne hb] at e3; exact e3
  · cases q : Hs p with
    | none => rfl
    | some u =>
      have h := r.dis _ _ q
      rw [upd_same] at h; cases h
  · cases hm : s.mut with
    | none => rw [hm] at m; cases m
    | some d =>
      obtain ⟨a, o', e1, e2, e3, e4, e5⟩ := r.own i s d e hm
      rw [q] at e1
      cases e1
      rw [upd_same] at e3; cases e3
theorem FinA.guard {K : PySem.W.Frag} {mg : Str → Option Value} {W : WX} {F : Hp} {B : List V} {Hs : Hp} {σ : St} {p : Addr} {o : HO} {α : Type} {P Pg : α → Env → Hp → Hp → Prop} (hf : F p = none) {x : O α} (h : FinA K mg W F B Hs σ P x)
    (hP : ∀ a S' Hs' H', H' p = some o → Hs' p = none → Apart S' σ p → Rep K F B Hs' S' σ H' → P a S' Hs' H' → Pg a S' Hs' H') : FinA K mg W (upd F p o) B Hs σ Pg x := by
  cases x with
  | ok a S' =>
    intro H' Hs' s' rep'
    obtain ⟨r1, h1, h2, h3⟩ := rep'.unguard hf
    exact hP a S' Hs' H' h1 h2 h3 r1 (h H' Hs' s' r1)
  | ex c ns ds S' =>
    intro cls d H' Hs' s' rep' xr
    obtain ⟨r1, h1, h2, h3⟩ := rep'.unguard hf
    refine h cls d H' Hs' s' r1 ⟨xr.cls, ?_⟩
    obtain ⟨dd, vs, e1, e2, e3, e4, e5, e6⟩ := xr.fld
    refine ⟨dd, vs, e1, e2, e3, e4, e5, ?_⟩
    by_cases hb : dd = p
    · rw [hb]; exact hf
    · rw [upd_ne hb] at e6; exact e6
  | bad => exact h
theorem FinA.guard_ex {K : PySem.W.Frag} {mg : Str → Option Value} {W : WX} {F : Hp} {B : List V} {Hs : Hp} {σ : St} {p : Addr} {o : HO} {α β : Type} {P : α → Env → Hp → Hp → Prop} {Pg : β → Env → Hp → Hp → Prop} (hf : F p = none) {c : Str} {ns : List Str} {ds : List D} {S1 : Env}
    (h : FinA K mg W F B Hs σ P (.ex c ns ds S1)) : FinA K mg W (upd F p o) B Hs σ Pg (.ex c ns ds S1) := by
  intro cls d H' Hs' s' rep' xr
  obtain ⟨r1, h1, h2, h3⟩ := rep'.unguard hf
  refine h cls d H' Hs' s' r1 ⟨xr.cls, ?_⟩
  obtain ⟨dd, vs, e1, e2, e3, e4, e5, e6⟩ := xr.fld
  refine ⟨dd, vs, e1, e2, e3, e4, e5, ?_⟩
  by_cases hb : dd = p
  · rw [hb]; exact hf
  · rw [upd_ne hb] at e6; exact e6
theorem Lof.mono {f : Sl} {F : Hp} {B : List V} {Hs : Hp} {S : Env} {σ : St} {H : Hp} {Q : List V → Hp → Prop} (rep : Rep X.K F B Hs S σ H) (h : FinA X.K X.mg W F B Hs σ (fun ds S' Hs' H' => ∀ vs, RVs X.K Hs' ds vs → Q vs H') (f C S)) : Lof X W C f σ H Q := ⟨F, B, Hs, S, rep, h⟩
theorem k_disp {pos : Pos} {keys : List (Option Expr)} {values : List Expr} {ks : List Key} {f : Sl} (h : DPs X W C pos keys values ks f) (hall : keys.all (·.isSome) = true) (hl : keys.length = values.length) (h0 : keys ≠ []) (h15 : keys.length ≤ 15) : PE X (.Dict keys values pos) (Eof X W C (sDisp ks f)) := by
  obtain ⟨trs, hp, ht⟩ := h
  refine PE.wk (pe_disp hp hall hl h0 h15) fun σ H Q ⟨F, B, Hs, S, rep, fin⟩ p hnew => ?_
  have rep0 := rep.new (o := .dK []) hnew
  have hfp := (rep.none_of hnew).2
  have rep1 := rep0.guard upd_same (rep.none_of hnew).1 (rep.apart_new hnew)
  refine ht σ _ _ ?_
  have fin' : FinA X.K X.mg W F B Hs σ (fun r S' Hs' H' => ∀ v, RR X.K F Hs' S' σ H' r v → Q v H') ((f C S).bind fun ds S1 => if ks.length = ds.length ∧ ks.Nodup ∧ ks.length ≤ 15 then .ok (.fr (.dct ks ds)) S1 else .bad) := fin.to
  refine Lof.mono rep1 ?_
  cases e : f C S with
  | bad => rw [e] at fin'; exact fin'.elim
  | ex c ns ds S1 => rw [e] at fin'; exact FinA.guard_ex hfp fin'
  | ok ds S1 =>
    rw [e] at fin'
    intro H2 Hs2 s2 rep2 vs rv
    obtain ⟨rep3, h1, h2, h3⟩ := rep2.unguard hfp
    have fin2 : FinA X.K X.mg W F B Hs σ (fun r S' Hs' H' => ∀ v, RR X.K F Hs' S' σ H' r v → Q v H') (if ks.length = ds.length ∧ ks.Nodup ∧ ks.length ≤ 15 then O.ok (.fr (.dct ks ds)) S1 else .bad) := fin'
    by_cases c : ks.length = ds.length ∧ ks.Nodup ∧ ks.length ≤ 15
    · rw [if_pos c] at fin2
      have hlen : ks.length = vs.length := c.1.trans rv.length
      have z1 : (ks.zip vs).map (·.1) = ks := zip_fst hlen
      have z2 : (ks.zip vs).map (·.2) = vs := zip_snd hlen
      refine ⟨h1, ks.zip vs, rfl, by rw [List.length_zip, ← hlen, Nat.min_self]; exact c.2.2, ?_⟩
      have em : mergeK [] (ks.zip vs) = ks.zip vs := by
        have q := merge_nodup (ks.zip vs) [] (by rw [List.nil_append, z1]; exact c.2.1)
        rw [q, List.nil_append]
      rw [em]
      have k : Rep X.K F B Hs2 S1 σ (upd H2 p (.dK (ks.zip vs))) := by
        refine ⟨fun b u q => ?_, fun b u q => ?_, rep3.dis, rep3.len, rep3.val, fun i s d q m => ?_, rep3.bor, rep3.inj⟩
        · rw [upd_ne (ne_of_none q h2)]; exact rep3.sub _ _ q
        · rw [upd_ne (ne_of_none q hfp)]; exact rep3.frm _ _ q
        · obtain ⟨a, o', e1, e2, e3, e4, e5⟩ := rep3.own i s d q m
          have ne : a ≠ p := fun z => h3 i s q (by rw [m]; rfl) (by rw [← z]; exact e1)
          exact ⟨a, o', e1, e2, e3, by rw [upd_ne ne]; exact e4, e5⟩
      exact fin2 _ Hs2 s2 k _ ⟨p, _, rfl, h2, hfp, upd_same, .dct z1.symm (by rw [z2]; exact rv), h3⟩
    · rw [if_neg c] at fin2; exact fin2.elim
end
end Kn

/-! Kn7 -/
/-! Kn part 7: statements, loops, comprehensions. -/
namespace Kn
open PySem PySem.Spec PyProof.Rows L2

inductive OS where
  | nx (S : Env)
  | rt (r : R) (S : Env)
  | bk (S : Env)
  | ct (S : Env)
  | ex (c : Str) (ns : List Str) (ds : List D) (S : Env)
  | bad
abbrev Sg := Cc → Env → OS
def FinS (K : PySem.W.Frag) (mg : Str → Option Value) (W : WX) (F : Hp) (B : List V) (Hs : Hp) (E : Ends) : OS → Prop
  | .nx S' => ∀ σ' H' Hs', Same Hs Hs' → Rep K F B Hs' S' σ' H' → E.nx σ' H'
  | .rt r S' => ∀ v σ' H' Hs', Same Hs Hs' → Rep K F B Hs' S' σ' H' → RR K F Hs' S' σ' H' r v → E.rt v H'
  | .bk S' => ∀ σ' H' Hs', Same Hs Hs' → Rep K F B Hs' S' σ' H' → E.bk σ' H'
  | .ct S' => ∀ σ' H' Hs', Same Hs Hs' → Rep K F B Hs' S' σ' H' → E.ct σ' H'
  | .ex c ns ds S' => ∀ cls d σ' H' Hs', Same Hs Hs' → Rep K F B Hs' S' σ' H' → XR K mg F Hs' c ns ds cls d H' → W cls d σ' H'
  | .bad => False
theorem FinS.later {K : PySem.W.Frag} {mg : Str → Option Value} {W : WX} {F : Hp} {B : List V} {Hs Hs' : Hp} {E : Ends} {o : OS} (s : Same Hs Hs') (h : FinS K mg W F B Hs E o) : FinS K mg W F B Hs' E o := by
  cases o with
  | nx S' => exact fun a b c s2 => h a b c (s.trans s2)
  | rt r S' => exact fun a b c d s2 => h a b c d (s.trans s2)
  | bk S' => exact fun a b c s2 => h a b c (s.trans s2)
  | ct S' => exact fun a b c s2 => h a b c (s.trans s2)
  | ex c ns ds S' => exact fun a b c d e s2 => h a b c d e (s.trans s2)
  | bad => exact h
def Sof (X : Cx) (W : WX) (C : Cc) (g : Sg) : TS := fun E σ H => ∃ F B Hs S, Rep X.K F B Hs S σ H ∧ FinS X.K X.mg W F B Hs E (g C S)
/-- an outcome of an expression, then a statement's -/
def O.bindS {α : Type} (x : O α) (f : α → Env → OS) : OS := match x with
  | .ok a S => f a S
  | .ex c ns ds S => .ex c ns ds S
  | .bad => .bad
def OS.bind (x : OS) (f : Env → OS) : OS := match x with
  | .nx S => f S
  | o => o
section
variable {X : Cx} {W : WX} {C : Cc}
theorem eofS {f : Sm} {F : Hp} {B : List V} {Hs : Hp} {S : Env} {σ : St} {H : Hp} {E : Ends} {k : R → Env → OS} (rep : Rep X.K F B Hs S σ H) (h : FinS X.K X.mg W F B Hs E ((f C S).bindS k)) (Q1 : VK)
    (next : ∀ r S1 v H1 Hs1, Same Hs Hs1 → Rep X.K F B Hs1 S1 σ H1 → RR X.K F Hs1 S1 σ H1 r v → FinS X.K X.mg W F B Hs1 E (k r S1) → Q1 v H1) : Eof X W C f σ H Q1 := by
  refine ⟨F, B, Hs, S, rep, ?_⟩
  cases e : f C S with
  | ok r S1 =>
    rw [e] at h
    exact fun v H1 Hs1 s1 rep1 rr => next r S1 v H1 Hs1 s1 rep1 rr (FinS.later s1 h)
  | ex c ns ds S1 => rw [e] at h; exact fun cls d H1 Hs1 s1 rep1 xr => h cls d σ H1 Hs1 s1 rep1 xr
  | bad => rw [e] at h; exact h
theorem tofS {f : Sb} {F : Hp} {B : List V} {Hs : Hp} {S : Env} {σ : St} {H : Hp} {E : Ends} {k : Bool → Env → OS} (rep : Rep X.K F B Hs S σ H) (h : FinS X.K X.mg W F B Hs E ((f C S).bindS k)) (Q1 : Bool → Hp → Prop)
    (next : ∀ b S1 H1 Hs1, Same Hs Hs1 → Rep X.K F B Hs1 S1 σ H1 → FinS X.K X.mg W F B Hs1 E (k b S1) → Q1 b H1) : Tof X W C f σ H Q1 := by
  refine ⟨F, B, Hs, S, rep, ?_⟩
  cases e : f C S with
  | ok r S1 =>
    rw [e] at h
    exact fun H1 Hs1 s1 rep1 => next r S1 H1 Hs1 s1 rep1 (FinS.later s1 h)
  | ex c ns ds S1 => rw [e] at h; exact fun cls d H1 Hs1 s1 rep1 xr => h cls d σ H1 Hs1 s1 rep1 xr
  | bad => rw [e] at h; exact h
theorem O.bind_bindS {α β : Type} (x : O α) (f : α → Env → O β) (g : β → Env → OS) : (x.bind f).bindS g = x.bindS fun a S => (f a S).bindS g := by
  cases x <;> rfl
theorem fzS {f : Sm} {F : Hp} {B : List V} {Hs : Hp} {S : Env} {σ : St} {H : Hp} {E : Ends} {k : D → Env → OS} (rep : Rep X.K F B Hs S σ H) (h : FinS X.K X.mg W F B Hs E ((sFz f C S).bindS k)) (Q1 : VK)
    (next : ∀ d S1 v H1 Hs1, Same Hs Hs1 → Rep X.K F B Hs1 S1 σ H1 → RV X.K Hs1 d v → FinS X.K X.mg W F B Hs1 E (k d S1) → Q1 v H1) : Eof X W C f σ H Q1 := by
  unfold sFz at h
  rw [O.bind_bindS] at h
  refine eofS rep h _ fun r S1 v H1 Hs1 s1 rep1 rr fin1 => ?_
  cases e1 : freeze r S1 with
  | none => rw [e1] at fin1; exact fin1.elim
  | some q =>
    obtain ⟨d, S2⟩ := q
    rw [e1] at fin1
    obtain ⟨Hs2, s2, rep2, rv⟩ := freeze_ok rep1 rr e1
    exact next d S2 v H1 Hs2 (s1.trans s2) rep2 rv (fin1.later s2)

/-! ### blocks -/
def sSkip : Sg := fun _ S => .nx S
def sSeq (g h : Sg) : Sg := fun C S => (g C S).bind fun S1 => h C S1
def sBreak : Sg := fun _ S => .bk S
def sCont : Sg := fun _ S => .ct S
theorem b_nil : PSs X [] (Sof X W C sSkip) := PSs.wk pss_nil fun σ H E ⟨F, B, Hs, S, rep, fin⟩ => fin σ H Hs (.refl _) rep
theorem seqS {g h : Sg} {E : Ends} {σ : St} {H : Hp} (q : Sof X W C (sSeq g h) E σ H) : tSeq (Sof X W C g) (Sof X W C h) E σ H := by
  obtain ⟨F, B, Hs, S, rep, fin⟩ := q
  refine ⟨F, B, Hs, S, rep, ?_⟩
  unfold sSeq at fin
  cases e : g C S with
  | nx S1 => rw [e] at fin; exact fun σ' H' Hs' s' rep' => ⟨F, B, Hs', S1, rep', fin.later s'⟩
  | rt r S1 => rw [e] at fin; exact fin
  | bk S1 => rw [e] at fin; exact fin
  | ct S1 => rw [e] at fin; exact fin
  | ex c ns ds S1 => rw [e] at fin; exact fin
  | bad => rw [e] at fin; exact fin
theorem b_cons {st : Stmt} {rest : List Stmt} {g h : Sg} (h1 : PS X st (Sof X W C g)) (h2 : PSs X rest (Sof X W C h)) : PSs X (st :: rest) (Sof X W C (sSeq g h)) := PSs.wk (pss_cons h1 h2) fun _ _ _ q => seqS q
theorem b_one {st : Stmt} {g : Sg} (h1 : PS X st (Sof X W C g)) : PSs X [st] (Sof X W C g) := pss_one h1
theorem b_pass {pos : Pos} : PS X (.Pass pos) (Sof X W C sSkip) := PS.wk ps_pass fun σ H E ⟨F, B, Hs, S, rep, fin⟩ => fin σ H Hs (.refl _) rep
theorem b_break {pos : Pos} : PS X (.Break pos) (Sof X W C sBreak) := PS.wk ps_break fun σ H E ⟨F, B, Hs, S, rep, fin⟩ => fin σ H Hs (.refl _) rep
theorem b_cont {pos : Pos} : PS X (.Continue pos) (Sof X W C sCont) := PS.wk ps_continue fun σ H E ⟨F, B, Hs, S, rep, fin⟩ => fin σ H Hs (.refl _) rep
def sDrop (f : Sm) : Sg := fun C S => (f C S).bindS fun _ S1 => .nx S1
theorem b_expr {e : Expr} {f : Sm} {pos : Pos} (he : PE X e (Eof X W C f)) (hs : swapsWith e none pos.line X.env = pure false) : PS X (.Expr e pos) (Sof X W C (sDrop f)) :=
  PS.wk (ps_expr he hs) fun σ H E ⟨F, B, Hs, S, rep, fin⟩ => eofS rep fin _ fun r S1 v H1 Hs1 s1 rep1 rr fin1 => fin1 σ H1 Hs1 (.refl _) rep1
def sIf (t : Sb) (g h : Sg) : Sg := fun C S => (t C S).bindS fun b S1 => match b with
  | true => g C S1
  | false => h C S1
theorem b_if {c : Expr} {a b : List Stmt} {t : Sb} {g h : Sg} {pos : Pos} (hc : PT X c (Tof X W C t)) (ha : PSs X a (Sof X W C g)) (hb : PSs X b (Sof X W C h)) : PS X (.If c a b pos) (Sof X W C (sIf t g h)) :=
  PS.wk (ps_if hc ha hb) fun σ H E ⟨F, B, Hs, S, rep, fin⟩ => tofS rep fin _ fun b S1 H1 Hs1 s1 rep1 fin1 => by
    cases b with
    | true => exact (if_pos rfl).mpr ⟨F, B, Hs1, S1, rep1, fin1⟩
    | false => exact (if_neg Bool.false_ne_true).mpr ⟨F, B, Hs1, S1, rep1, fin1⟩
/-- return: an own thing is handed over -/
def sRet (f : Sm) : Sg := fun C S => (f C S).bindS fun r S1 => match r with
  | .val d => .rt (.val d) S1
  | .fr d => .rt (.fr d) S1
  | .sl i => match S1[i]? with
    | some (.own d) => .rt (.fr d) (S1.set i .non)
    | _ => .bad
theorem Rep.drop {K : PySem.W.Frag} {F : Hp} {B : List V} {Hs : Hp} {S : Env} {σ : St} {H : Hp} (r : Rep K F B Hs S σ H) {i : Nat} : Rep K F B Hs (S.set i .non) σ H := by
  have back : ∀ (j : Nat) (t : Slot), (S.set i .non)[j]? = some t → t ≠ .non → j ≠ i ∧ S[j]? = some t := fun j t q n => by
    by_cases hj : j = i
    · subst hj
      by_cases hl : j < S.length
      · rw [List.getElem?_set_self hl] at q; cases q; exact absurd rfl n
      · rw [List.getElem?_eq_none (by simpa using hl)] at q; cases q
    · rw [List.getElem?_set_ne (Ne.symm hj)] at q
      exact ⟨hj, q⟩
  refine ⟨r.sub, r.frm, r.dis, by rw [List.length_set]; exact r.len, fun j d q => r.val j d (back j _ q (fun z => nomatch z)).2, fun j s d q m => ?_, fun j d q => r.bor j d (back j _ q (fun z => nomatch z)).2, fun j l s t a q1 q2 m1 m2 => ?_⟩
  · exact r.own j s d (back j s q (fun z => by rw [z] at m; cases m)).2 m
  · exact r.inj j l s t a (back j s q1 (fun z => by rw [z] at m1; cases m1)).2 (back l t q2 (fun z => by rw [z] at m2; cases m2)).2 m1 m2
theorem b_ret {e : Expr} {f : Sm} {pos : Pos} (he : PE X e (Eof X W C f)) : PS X (.Return (some e) pos) (Sof X W C (sRet f)) := by
  refine PS.wk (ps_ret he) fun σ H E ⟨F, B, Hs, S, rep, fin⟩ => ?_
  refine eofS rep fin _ fun r S1 v H1 Hs1 s1 rep1 rr fin1 => ?_
  cases r with
  | val d => exact fin1 v σ H1 Hs1 (.refl _) rep1 rr
  | fr d => exact fin1 v σ H1 Hs1 (.refl _) rep1 rr
  | sl i =>
    obtain ⟨e1, s, e2, e3⟩ := rr
    simp only at fin1
    rw [e2] at fin1
    cases s with
    | own d =>
      obtain ⟨a, o, z1, z2, z3, z4, z5⟩ := rep1.own i _ d e2 rfl
      rw [e1] at z1
      cases z1
      refine fin1 _ σ H1 Hs1 (.refl _) rep1.drop ⟨a, o, rfl, z2, z3, z4, z5, fun j t q m z => ?_⟩
      by_cases hj : j = i
      · subst hj
        rw [List.getElem?_set_self (List.getElem?_eq_some_iff.mp e2).1] at q
        cases q; cases m
      · rw [List.getElem?_set_ne (Ne.symm hj)] at q
        exact hj (rep1.inj j i t _ a q e2 m rfl z e1)
    | non => exact fin1.elim
    | val d => exact fin1.elim
    | bor d => exact fin1.elim
def sRetN : Sg := fun _ S => .rt (.val .non) S
theorem b_retN {pos : Pos} : PS X (.Return none pos) (Sof X W C sRetN) := PS.wk ps_retN fun σ H E ⟨F, B, Hs, S, rep, fin⟩ => fin _ σ H Hs (.refl _) rep .non
end

/-! ### stores at names -/
def free (s : Slot) : Bool := match s with
  | .bor _ => false
  | _ => true
section
variable {K : PySem.W.Frag} {F : Hp} {B : List V} {Hs : Hp} {S : Env} {σ : St} {H : Hp}
theorem Rep.set (r : Rep K F B Hs S σ H) {i : Nat} {s : Slot} {d : D} {v : V} (e : S[i]? = some s) (rv : RV K Hs d v) : Rep K F B Hs (S.set i (.val d)) (σ.set i (some v)) H := by
  have hi : i < S.length := (List.getElem?_eq_some_iff.mp e).1
  have hi' : i < σ.length := Nat.lt_of_lt_of_le hi r.len
  have back : ∀ (j : Nat) (t : Slot), (S.set i (.val d))[j]? = some t → j ≠ i → S[j]? = some t ∧ (σ.set i (some v))[j]? = σ[j]? := fun j t q n => by
    rw [List.getElem?_set_ne (Ne.symm n)] at q
    exact ⟨q, List.getElem?_set_ne (Ne.symm n)⟩
  have nm : ∀ (j : Nat) (t : Slot), (S.set i (.val d))[j]? = some t → t.mut.isSome = true → j ≠ i := fun j t q m z => by
    subst z
    rw [List.getElem?_set_self hi] at q
    cases q; cases m
  refine ⟨r.sub, r.frm, r.dis, by rw [List.length_set, List.length_set]; exact r.len, fun j d' q => ?_, fun j t d' q m => ?_, fun j d' q => ?_, fun j l t u a q1 q2 m1 m2 z1 z2 => ?_⟩
  · by_cases hj : j = i
    · subst hj
      rw [List.getElem?_set_self hi] at q
      cases q
      exact ⟨v, List.getElem?_set_self hi', rv⟩
    · obtain ⟨q1, q2⟩ := back j _ q hj
      rw [q2]
      exact r.val j d' q1
  · obtain ⟨q1, q2⟩ := back j _ q (nm j t q (by rw [m]; rfl))
    rw [q2]
    exact r.own j t d' q1 m
  · obtain ⟨q1, q2⟩ := back j _ q (nm j _ q rfl)
    rw [q2]
    exact r.bor j d' q1
  · obtain ⟨p1, p2⟩ := back j t q1 (nm j t q1 m1)
    obtain ⟨p3, p4⟩ := back l u q2 (nm l u q2 m2)
    rw [p2] at z1
    rw [p4] at z2
    exact r.inj j l t u a p1 p3 m1 m2 z1 z2
theorem Rep.setFr (r : Rep K F B Hs S σ H) {i : Nat} {s : Slot} {d : D} {v : V} (e : S[i]? = some s) (rr : RR K F Hs S σ H (.fr d) v) : Rep K F B Hs (S.set i (.own d)) (σ.set i (some v)) H := by
  obtain ⟨a, o, rfl, e2, e3, e4, e5, e6⟩ := rr
  have hi : i < S.length := (List.getElem?_eq_some_iff.mp e).1
  have hi' : i < σ.length := Nat.lt_of_lt_of_le hi r.len
  have back : ∀ (j : Nat) (t : Slot), (S.set i (.own d))[j]? = some t → j ≠ i → S[j]? = some t ∧ (σ.set i (some (.ref a)))[j]? = σ[j]? := fun j t q n => by
    rw [List.getElem?_set_ne (Ne.symm n)] at q
    exact ⟨q, List.getElem?_set_ne (Ne.symm n)⟩
  refine ⟨r.sub, r.frm, r.dis, by rw [List.length_set, List.length_set]; exact r.len, fun j d' q => ?_, fun j t d' q m => ?_, fun j d' q => ?_, fun j l t u b q1 q2 m1 m2 z1 z2 => ?_⟩
  · have hj : j ≠ i := fun z => by
      subst z
      rw [List.getElem?_set_self hi] at q; cases q
    obtain ⟨q1, q2⟩ := back j _ q hj
    rw [q2]
    exact r.val j d' q1
  · by_cases hj : j = i
    · subst hj
      rw [List.getElem?_set_self hi] at q
      cases q
      cases m
      exact ⟨a, o, List.getElem?_set_self hi', e2, e3, e4, e5⟩
    · obtain ⟨q1, q2⟩ := back j _ q hj
      rw [q2]
      exact r.own j t d' q1 m
  · have hj : j ≠ i := fun z => by
      subst z
      rw [List.getElem?_set_self hi] at q; cases q
    obtain ⟨q1, q2⟩ := back j _ q hj
    rw [q2]
    exact r.bor j d' q1
  · by_cases hj : j = i
    · by_cases hl : l = i
      · rw [hj, hl]
      · exfalso
        subst hj
        rw [List.getElem?_set_self hi'] at z1
        cases z1
        obtain ⟨p3, p4⟩ := back l u q2 hl
        rw [p4] at z2
        exact e6 l u p3 m2 z2
    · by_cases hl : l = i
      · exfalso
        subst hl
        rw [List.getElem?_set_self hi'] at z2
        cases z2
        obtain ⟨p1, p2⟩ := back j t q1 hj
        rw [p2] at z1
        exact e6 j t p1 m1 z1
      · obtain ⟨p1, p2⟩ := back j t q1 hj
        obtain ⟨p3, p4⟩ := back l u q2 hl
        rw [p2] at z1
        rw [p4] at z2
        exact r.inj j l t u b p1 p3 m1 m2 z1 z2
end
/-- a result stored at a name -/
def setR (i : Nat) (r : R) (S : Env) : Option Env := match S[i]? with
  | none => none
  | some (.bor _) => none
  | some _ => match r with
    | .val d => some (S.set i (.val d))
    | .fr d => some (S.set i (.own d))
    | .sl _ => none
theorem setR_ok {K : PySem.W.Frag} {F : Hp} {B : List V} {Hs : Hp} {S S' : Env} {σ : St} {H : Hp} {i : Nat} {r : R} {v : V} (rep : Rep K F B Hs S σ H) (rr : RR K F Hs S σ H r v) (e : setR i r S = some S') : Rep K F B Hs S' (σ.set i (some v)) H := by
  unfold setR at e
  split at e
  · cases e
  · cases e
  · rename_i s hs
    cases r with
    | val d => cases e; exact rep.set hs rr
    | fr d => cases e; exact rep.setFr hs rr
    | sl j => cases e
/-- an own thing at another name: data from now on -/
def thaw (r : R) (S : Env) : Option (R × Env) := match r with
  | .sl i => (freeze (.sl i) S).map fun p => (.val p.1, p.2)
  | r => some (r, S)
theorem thaw_ok {K : PySem.W.Frag} {F : Hp} {B : List V} {Hs : Hp} {S S' : Env} {σ : St} {H : Hp} {r r' : R} {v : V} (rep : Rep K F B Hs S σ H) (rr : RR K F Hs S σ H r v) (e : thaw r S = some (r', S')) : ∃ Hs', Same Hs Hs' ∧ Rep K F B Hs' S' σ H ∧ RR K F Hs' S' σ H r' v := by
  cases r with
  | val d => cases e; exact ⟨Hs, .refl _, rep, rr⟩
  | fr d => cases e; exact ⟨Hs, .refl _, rep, rr⟩
  | sl i =>
    unfold thaw at e
    simp only [Option.map_eq_some_iff] at e
    obtain ⟨⟨d, S2⟩, h1, h2⟩ := e
    cases h2
    obtain ⟨Hs', z1, z2, z3⟩ := freeze_ok rep rr h1
    exact ⟨Hs', z1, z2, z3⟩
def sSet (i : Nat) (f : Sm) : Sg := fun C S => (f C S).bindS fun r S1 => match thaw r S1 with
  | some (r', S2) => (match setR i r' S2 with
    | some S3 => .nx S3
    | none => .bad)
  | none => .bad
section
variable {X : Cx} {W : WX} {C : Cc}
theorem set_ok {i : Nat} {f : Sm} {E : Ends} {σ : St} {H : Hp} (q : Sof X W C (sSet i f) E σ H) : tAsg (Eof X W C f) (gName i) E σ H := by
  obtain ⟨F, B, Hs, S, rep, fin⟩ := q
  refine eofS rep fin _ fun r S1 v H1 Hs1 s1 rep1 rr fin1 => ?_
  cases e1 : thaw r S1 with
  | none => rw [e1] at fin1; exact fin1.elim
  | some p =>
    obtain ⟨r', S2⟩ := p
    rw [e1] at fin1
    simp only at fin1
    obtain ⟨Hs2, s2, rep2, rr2⟩ := thaw_ok rep1 rr e1
    cases e2 : setR i r' S2 with
    | none => rw [e2] at fin1; exact fin1.elim
    | some S3 =>
      rw [e2] at fin1
      exact fin1 _ H1 Hs2 s2 (setR_ok rep2 rr2 e2)
theorem b_set {i : Nat} {x : Str} {e : Expr} {f : Sm} {pos pos' : Pos} (hN : X.N.Nodup) (hi : X.N[i]? = some x) (hx : Loc X.env.scope x) (he : PE X e (Eof X W C f)) (hs : swapsWith e (some (.Name x pos')) pos.line X.env = pure false) (hf : X.fn x = true ∨ X.env.scope.names.lookup x = some .local) :
    PS X (.Assign [.Name x pos'] e pos) (Sof X W C (sSet i f)) := PS.wk (ps_set hN hi hx he hs hf) fun _ _ _ q => set_ok q
/-- x op= e -/
def sAug (i : Nat) (g : D → D → Option R) (f : Sm) : Sg := fun C S => match S[i]? with
  | some (.val d1) => (f C S).bindS fun r S1 => match pk r S1 with
    | some d2 => (match g d1 d2 with
      | some r' => (match setR i r' S1 with
        | some S3 => .nx S3
        | none => .bad)
      | none => .bad)
    | none => .bad
  | _ => .bad
theorem b_aug {i : Nat} {x : Str} {e : Expr} {f : Sm} {op : Operator} {r2 : R2} {g : D → D → Option R} {pos pos' : Pos} (ho : OpR X (inplaceOp op) r2) (og : OpD X.K r2 g) (hN : X.N.Nodup) (hi : X.N[i]? = some x) (hx : Loc X.env.scope x) (he : PE X e (Eof X W C f)) (hf : X.fn x = true ∨ X.env.scope.names.lookup x = some .local) :
    PS X (.AugAssign (.Name x pos') op e pos) (Sof X W C (sAug i g f)) := by
  refine PS.wk (ps_aug hN hi hx he (ti := r2) (fun pins s σ H x y v u Q I rx ry q => ho pins s σ H x y v u Q I rx ry q) hf) fun σ H E ⟨F, B, Hs, S, rep, fin⟩ => ?_
  unfold sAug at fin
  split at fin
  · rename_i d1 hd
    obtain ⟨v, hv, rv⟩ := rep.val i d1 hd
    refine ⟨v, hv, ?_⟩
    refine eofS rep fin _ fun r S1 u H1 Hs1 s1 rep1 rr fin1 => ?_
    obtain ⟨Hs2, s2, rep2, rw2⟩ := unfr_ok rep1 rr
    rw [← pk_unfr (r := r)] at fin1
    cases e1 : pk (unfr r) S1 with
    | none => rw [e1] at fin1; exact fin1.elim
    | some d2 =>
      rw [e1] at fin1
      simp only at fin1
      cases e2 : g d1 d2 with
      | none => rw [e2] at fin1; exact fin1.elim
      | some r' =>
        rw [e2] at fin1
        simp only at fin1
        cases e3 : setR i r' S1 with
        | none => rw [e3] at fin1; exact fin1.elim
        | some S3 =>
          rw [e3] at fin1
          exact og rep2 (.inl (rv.mono (s1.trans s2))) (pk_ok rep2 rw2 e1) e2 fun w H' Hs' s' rep' rr' => fin1 _ H' Hs' (s2.trans s') (setR_ok rep' rr' e3)
  · exact fin.elim

/-! ### targets of data -/
abbrev Tg := D → Env → Option Env
abbrev Tgs := List D → Env → Option Env
def wiped (vs : List Nat) (σ σ' : St) : Prop := wipe σ' vs = wipe σ vs
/-- a target's reading takes data; is: its slots -/
def TgSem (K : PySem.W.Frag) (is : List Nat) (t : Tg) (g : TG) : Prop := ∀ (F : Hp) (B : List V) (Hs : Hp) (S : Env) (σ : St) (H : Hp) (d : D) (v : V) (S' : Env) (Q : St → Hp → Prop), Rep K F B Hs S σ H → RV K Hs d v → t d S = some S' →
  (∀ σ', Rep K F B Hs S' σ' H → (∀ vs, (∀ i ∈ is, i ∈ vs) → wiped vs σ σ') → Q σ' H) → g v σ H Q
def TgsSem (K : PySem.W.Frag) (is : List Nat) (t : Tgs) (g : TGs) : Prop := ∀ (F : Hp) (B : List V) (Hs : Hp) (S : Env) (σ : St) (H : Hp) (d : List D) (v : List V) (S' : Env) (Q : St → Hp → Prop), Rep K F B Hs S σ H → RVs K Hs d v → t d S = some S' →
  (∀ σ', Rep K F B Hs S' σ' H → (∀ vs, (∀ i ∈ is, i ∈ vs) → wiped vs σ σ') → Q σ' H) → g v σ H Q
def TgOk (X : Cx) (e : Expr) (is : List Nat) (t : Tg) : Prop := ∃ g, PG X e g ∧ TgSem X.K is t g
def tgN (i : Nat) : Tg := fun d S => setR i (.val d) S
def tgsN : Tgs := fun ds S => match ds with
  | [] => some S
  | _ => none
def tgsC (t : Tg) (u : Tgs) : Tgs := fun ds S => match ds with
  | d :: r => (t d S).bind fun S1 => u r S1
  | [] => none
def tgT (n : Nat) (u : Tgs) : Tg := fun d S => match d with
  | .tup ds => if ds.length = n then u ds S else none
  | _ => none
theorem wipe_set {σ : St} {i : Nat} {v : Option V} : ∀ {vs : List Nat}, i ∈ vs → wipe (σ.set i v) vs = wipe σ vs
  | w :: vs, h => by
    unfold wipe
    by_cases hm : i ∈ vs
    · rw [wipe_set hm]
    · have e : i = w := by
        rcases List.mem_cons.mp h with h | h
        · exact h
        · exact absurd h hm
      subst e
      have q : ∀ (ws : List Nat) (τ : St), i ∉ ws → (wipe (τ.set i v) ws).set i none = (wipe τ ws).set i none := by
        intro ws
        induction ws with
        | nil => intro τ _; show (τ.set i v).set i none = τ.set i none; rw [List.set_set]
        | cons w ws ih =>
          intro τ hn
          have hw : i ≠ w := fun z => hn (by rw [z]; exact List.mem_cons_self)
          have hn' : i ∉ ws := fun z => hn (List.mem_cons_of_mem _ z)
          show ((wipe (τ.set i v) ws).set w none).set i none = ((wipe τ ws).set w none).set i none
          rw [List.set_comm _ _ (Ne.symm hw), ih τ hn', List.set_comm _ _ hw]
      exact q vs σ hm
theorem tgSem_name {K : PySem.W.Frag} {i : Nat} : TgSem K [i] (tgN i) (gName i) := fun F B Hs S σ H d v S' Q rep rv e k => k _ (setR_ok (r := .val d) rep rv e) fun vs h => wipe_set (h i List.mem_cons_self)
theorem tgsSem_nil {K : PySem.W.Frag} : TgsSem K [] tgsN gNil := fun F B Hs S σ H d v S' Q rep rv e k => by
  unfold tgsN at e
  split at e
  · cases e
    cases rv
    exact ⟨rfl, k σ rep fun _ _ => rfl⟩
  · cases e
theorem tgsSem_cons {K : PySem.W.Frag} {is js : List Nat} {t : Tg} {u : Tgs} {g : TG} {g' : TGs} (q : TgSem K is t g) (q' : TgsSem K js u g') : TgsSem K (is ++ js) (tgsC t u) (gCons g g') := fun F B Hs S σ H d v S' Q rep rv e k => by
  unfold tgsC at e
  split at e
  · rename_i d r
    simp only [Option.bind_eq_some_iff] at e
    obtain ⟨S1, e1, e2⟩ := e
    cases rv with
    | cons rv rvs =>
      refine ⟨_, _, rfl, q F B Hs S σ H d _ S1 _ rep rv e1 fun σ1 rep1 w1 => q' F B Hs S1 σ1 H r _ S' _ rep1 rvs e2 fun σ2 rep2 w2 => k σ2 rep2 fun vs hv => ?_⟩
      exact (w2 vs fun i hi => hv i (List.mem_append_right _ hi)).trans (w1 vs fun i hi => hv i (List.mem_append_left _ hi))
  · cases e
theorem tgSem_tup {K : PySem.W.Frag} {n : Nat} {is : List Nat} {u : Tgs} {g : TGs} (q : TgsSem K is u g) : TgSem K is (tgT n u) (gTup K n g) := fun F B Hs S σ H d v S' Q rep rv e kk => by
  unfold tgT at e
  split at e
  · split at e
    · rename_i ds hl
      cases rv with
      | tup hq rvs => exact ⟨_, _, rfl, sqT_same rep.sub hq, by rw [← rvs.length]; exact hl, q F B Hs S σ H _ _ S' Q rep rvs e kk⟩
    · cases e
  · cases e
/-- a target takes what an expression gives, as data -/
def sAsg (t : Tg) (f : Sm) : Sg := fun C S => (sFz f C S).bindS fun d S1 => match t d S1 with
  | some S2 => .nx S2
  | none => .bad
theorem b_asg {tg e : Expr} {is : List Nat} {t : Tg} {f : Sm} {pos : Pos} (he : PE X e (Eof X W C f)) (hg : TgOk X tg is t) (hs : swapsWithSole [tg] e pos.line X.env = pure false) (hw : swappedStores [tg] e X.env = pure none) (h1 : (assignEach [tg] X.env).map (·.2) = [assign tg X.env]) :
    PS X (.Assign [tg] e pos) (Sof X W C (sAsg t f)) := by
  obtain ⟨g, p, q⟩ := hg
  refine PS.wk (ps_asg he p hs hw h1) fun σ H E ⟨F, B, Hs, S, rep, fin⟩ => ?_
  refine fzS rep fin _ fun d S1 v H1 Hs1 s1 rep1 rv fin1 => ?_
  cases e1 : t d S1 with
  | none => rw [e1] at fin1; exact fin1.elim
  | some S2 =>
    rw [e1] at fin1
    exact q F B Hs1 S1 σ H1 d v S2 _ rep1 rv e1 fun σ' rep' _ => fin1 σ' H1 Hs1 (.refl _) rep'

/-! ### x[k] = e -/
def dPut : List Key → List D → Key → D → List Key × List D
  | j :: ks, e :: ds, k, d => if j = k then (j :: ks, d :: ds) else (j :: (dPut ks ds k d).1, e :: (dPut ks ds k d).2)
  | _, _, k, d => ([k], [d])
def gSet : D → D → D → Option D
  | .lst ds, .int i, d => (ixN ds.length i).map fun j => .lst (ds.set j d)
  | .dct ks ds, k, d => (keyD k).bind fun k => if ks.length < 16777216 ∧ ks.Nodup then some (.dct (dPut ks ds k d).1 (dPut ks ds k d).2) else none
  | _, _, _ => none
def rSetK : TSet := fun o i v H Q => ∃ a H', o = .ref a ∧ DPut H a i v H' ∧ Q H'
theorem set_dict (hu : X.A.units + 1 < cLine) : PSet X rSetK := by
  intro pins s σ H o i v ov iv u Q I ro ri rv h
  obtain ⟨a, H', rfl, g, q⟩ := h
  cases ro
  exact d_setItem hu I g ri rv fun s4 I4 => ⟨H', I4, q⟩
theorem PSet.or {t t' : TSet} (h : PSet X t) (h' : PSet X t') : PSet X (fun o i v H Q => t o i v H Q ∨ t' o i v H Q) := by
  intro pins s σ H o i v ov iv u Q I ro ri rv q
  rcases q with q | q
  · exact h pins s σ H o i v ov iv u Q I ro ri rv q
  · exact h' pins s σ H o i v ov iv u Q I ro ri rv q
theorem any_iff {kvs : List (Key × V)} {k : Key} : (kvs.any fun kv => decide (kv.1 = k)) = true ↔ k ∈ kvs.map (·.1) := by
  rw [List.any_eq_true]
  constructor
  · rintro ⟨p, hp, e⟩
    exact List.mem_map.mpr ⟨p, hp, of_decide_eq_true e⟩
  · intro h
    obtain ⟨p, hp, e⟩ := List.mem_map.mp h
    exact ⟨p, hp, decide_eq_true e⟩
theorem put_same {k : Key} {v : V} : ∀ {kvs : List (Key × V)}, k ∉ kvs.map (·.1) → kvs.map (fun kv => if kv.1 = k then (kv.1, v) else kv) = kvs
  | [], _ => rfl
  | p :: kvs, h => by
    have h1 : p.1 ≠ k := fun z => h (by rw [List.map_cons, z]; exact List.mem_cons_self)
    rw [List.map_cons, if_neg h1, put_same fun z => h (by rw [List.map_cons]; exact List.mem_cons_of_mem _ z)]
theorem dPut_rv {K : PySem.W.Frag} {H : Hp} {k : Key} {d : D} {v : V} (rv : RV K H d v) : ∀ {kvs : List (Key × V)} {ds : List D}, (kvs.map (·.1)).Nodup → RVs K H ds (kvs.map (·.2)) →
    (dPut (kvs.map (·.1)) ds k d).1 = (putK kvs k v).map (·.1) ∧ RVs K H (dPut (kvs.map (·.1)) ds k d).2 ((putK kvs k v).map (·.2))
  | [], _, _, .nil => ⟨rfl, .cons rv .nil⟩
  | p :: kvs, _, nd, .cons r t => by
    rw [List.map_cons, List.nodup_cons] at nd
    rw [List.map_cons]
    unfold dPut
    by_cases hk : p.1 = k
    · have hn : k ∉ kvs.map (·.1) := by rw [← hk]; exact nd.1
      have e : putK (p :: kvs) k v = (p.1, v) :: kvs := by
        unfold putK
        rw [if_pos (by rw [List.any_cons, decide_eq_true hk]; rfl), List.map_cons, if_pos hk, put_same hn]
      rw [e, if_pos hk]
      exact ⟨rfl, .cons rv t⟩
    · obtain ⟨h1, h2⟩ := dPut_rv (k := k) rv nd.2 t
      have e : putK (p :: kvs) k v = p :: putK kvs k v := by
        unfold putK
        rw [List.any_cons, decide_eq_false hk, Bool.false_or]
        split
        · rw [List.map_cons, if_neg hk]
        · rfl
      rw [e, if_neg hk]
      exact ⟨by rw [h1]; rfl, .cons r h2⟩
def sSub (i : Nat) (fk fe : Sm) : Sg := fun C S => (sFz fe C S).bindS fun d S1 => match S1[i]? with
  | some s => (match s.mut with
    | some _ => (fk C S1).bindS fun r S2 => match pk r S2 with
      | some dk => (match (S2[i]?).bind Slot.mut with
        | some c => (match gSet c dk d with
          | some c' => .nx (setAt S2 i c')
          | none => .bad)
        | none => .bad)
      | none => .bad
    | none => .bad)
  | none => .bad
theorem b_sub (hu : X.A.units + 1 < cLine) {i : Nat} {x : Str} {k e : Expr} {fk fe : Sm} {p spos pos : Pos} (hN : X.N[i]? = some x) (hv : Vis X.env.scope x) (hd : (x == ("__debug__" : Str)) = false) (hcd : (x == ("__classdict__" : Str)) = false) (hk : PE X k (Eof X W C fk)) (he : PE X e (Eof X W C fe))
    (ha : ∀ v, assign (.Subscript (.Name x p) k spos) X.env v = (do
      let ov ← holding [v] (eval (.Name x p) X.env)
      let iv ← holding [v, ov] (eval k X.env)
      standAt spos
      holding [v, ov, iv] (setItem ov iv v)
      release [v, ov, iv] []))
    (hs : swapsWithSole [.Subscript (.Name x p) k spos] e pos.line X.env = pure false) (hw : swappedStores [.Subscript (.Name x p) k spos] e X.env = pure none) (h1 : (assignEach [.Subscript (.Name x p) k spos] X.env).map (·.2) = [assign (.Subscript (.Name x p) k spos) X.env]) :
    PS X (.Assign [.Subscript (.Name x p) k spos] e pos) (Sof X W C (sSub i fk fe)) := by
  refine PS.wk (ps_asg he (pg_sub (pe_var hN hv hd hcd) hk (PSet.or set_list (set_dict hu)) ha) hs hw h1) fun σ H E ⟨F, B, Hs, S, rep, fin⟩ => ?_
  refine fzS rep fin _ fun d S1 v H1 Hs1 s1 rep1 rv fin1 => ?_
  cases e1 : S1[i]? with
  | none => rw [e1] at fin1; exact fin1.elim
  | some s =>
    rw [e1] at fin1
    simp only at fin1
    cases e2 : s.mut with
    | none => rw [e2] at fin1; exact fin1.elim
    | some c0 =>
      rw [e2] at fin1
      simp only at fin1
      obtain ⟨a, o0, z1, _, _, _, _⟩ := rep1.own i s c0 e1 e2
      refine ⟨_, z1, ?_⟩
      refine eofS rep1 fin1 _ fun r S2 u H2 Hs2 s2 rep2 rr fin2 => ?_
      obtain ⟨Hs3, s3, rep3, rw3⟩ := unfr_ok rep2 rr
      rw [← pk_unfr (r := r)] at fin2
      cases e3 : pk (unfr r) S2 with
      | none => rw [e3] at fin2; exact fin2.elim
      | some dk =>
        rw [e3] at fin2
        simp only at fin2
        have pv := pk_ok rep3 rw3 e3
        cases e4 : (S2[i]?).bind Slot.mut with
        | none => rw [e4] at fin2; exact fin2.elim
        | some c =>
          rw [e4] at fin2
          simp only at fin2
          simp only [Option.bind_eq_some_iff] at e4
          obtain ⟨s', e4, e5⟩ := e4
          obtain ⟨a', o, y1, y2, y3, y4, y5⟩ := rep3.own i s' c e4 e5
          rw [z1] at y1
          cases y1
          cases e6 : gSet c dk d with
          | none => rw [e6] at fin2; exact fin2.elim
          | some c' =>
            rw [e6] at fin2
            have rv3 := rv.mono (s2.trans s3)
            unfold gSet at e6
            split at e6
            · simp only [Option.map_eq_some_iff] at e6
              obtain ⟨j, hj, rfl⟩ := e6
              obtain rfl := pv.int
              cases y5 with
              | lst rvs =>
                refine .inl ⟨a, _, _, j, rfl, rfl, y4, by rw [← rvs.length]; exact hj, ?_⟩
                exact fin2 σ _ Hs3 s3 (setAt_ok rep3 e4 e5 z1 (.lst (rvs.set rv3 j)))
            · simp only [Option.bind_eq_some_iff] at e6
              obtain ⟨kk, hk, e6⟩ := e6
              split at e6
              · rename_i hz
                cases e6
                cases y5 with
                | @dct _ _ kvs q rvs =>
                  subst q
                  obtain rfl := keyD_rv hk (pv.rv rep3)
                  obtain ⟨w1, w2⟩ := dPut_rv (k := kk) rv3 hz.2 rvs
                  refine .inr ⟨a, _, rfl, DPut.k y4 (by rw [sizeLine_eq]; simpa using hz.1), ?_⟩
                  exact fin2 σ _ Hs3 s3 (setAt_ok rep3 e4 e5 z1 (.dct w1 w2))
              · cases e6
            · cases e6
end
end Kn

/-! Kn8 -/
/-! Kn part 8: what is walked; for, while, list comprehensions. -/
namespace Kn
open PySem PySem.Spec PyProof.Rows L2

/-! ### what is walked -/
structure WalkJ (K : PySem.W.Frag) (J : It) (Hs0 : Hp) (ds : List D) : Prop where
  stop : ∀ (i : Nat) (H : Hp), Same Hs0 H → ds.length ≤ i → J.stop i H
  go : ∀ (i : Nat) (H : Hp), Same Hs0 H → i < ds.length → J.go i H
  yld : ∀ (i : Nat) (x : V) (H H' F : Hp) (B : List V) (Hs : Hp) (S : Env) (σ : St), Same Hs0 Hs → Rep K F B Hs S σ H → i < ds.length → J.yld i H x H' → ∃ d Hs', ds[i]? = some d ∧ Same Hs Hs' ∧ Rep K F B Hs' S σ H' ∧ RV K Hs' d x
abbrev Si := Cc → Env → O (List D)
/-- an iterable: its items as data -/
def IterOk (X : Cx) (W : WX) (C : Cc) (tg iter : Expr) (f : Si) : Prop := ∃ wi, PI X tg iter wi ∧ ∀ (F : Hp) (B : List V) (Hs : Hp) (S : Env) (σ : St) (H : Hp) (R : It → Hp → Prop), Rep X.K F B Hs S σ H →
  FinA X.K X.mg W F B Hs σ (fun ds S' Hs' H' => ∀ J, WalkJ X.K J Hs' ds → R J H') (f C S) → wi σ H R
theorem walk_list {K : PySem.W.Frag} {Hs0 : Hp} {a : Addr} {vs : List V} {ds : List D} (h : SqL K Hs0 a vs) (r : RVs K Hs0 ds vs) : WalkJ K (Itl K a) Hs0 ds where
  stop := fun i H s hi => ⟨vs, s.seq h, by rw [← r.length]; exact hi⟩
  go := fun i H s hi => by
    have hv : i < vs.length := by rw [← r.length]; exact hi
    exact ⟨vs, vs[i], s.seq h, by simp [hv]⟩
  yld := fun i x H H' F B Hs S σ s rep hi y => by
    obtain ⟨e, y⟩ := y
    subst e
    obtain ⟨d, hd, rv⟩ := r.getV (y vs ((s.trans rep.sub).seq h))
    exact ⟨d, Hs, hd, .refl _, rep, rv.mono s⟩
theorem walk_tup {K : PySem.W.Frag} {Hs0 : Hp} {a : Addr} {vs : List V} {ds : List D} (h : SqT K Hs0 a vs) (r : RVs K Hs0 ds vs) : WalkJ K (Itt K a) Hs0 ds where
  stop := fun i H s hi => ⟨vs, sqT_same s h, by rw [← r.length]; exact hi⟩
  go := fun i H s hi => by
    have hv : i < vs.length := by rw [← r.length]; exact hi
    exact ⟨vs, vs[i], sqT_same s h, by simp [hv]⟩
  yld := fun i x H H' F B Hs S σ s rep hi y => by
    obtain ⟨e, y⟩ := y
    subst e
    obtain ⟨d, hd, rv⟩ := r.getV (y vs (sqT_same (s.trans rep.sub) h))
    exact ⟨d, Hs, hd, .refl _, rep, rv.mono s⟩
theorem walk_str {K : PySem.W.Frag} {Hs0 : Hp} {x : Str} : WalkJ K (Its x) Hs0 (signsD x) where
  stop := fun i H s hi => by
    show x.cps.size ≤ i
    simpa [signsD] using hi
  go := fun i H s hi => by
    show i < x.cps.size
    simpa [signsD] using hi
  yld := fun i v H H' F B Hs S σ s rep hi y => by
    obtain ⟨e, c, hc, rfl⟩ := y
    subst e
    refine ⟨.str ⟨#[c]⟩, Hs, ?_, .refl _, rep, .str _⟩
    unfold signsD
    rw [List.getElem?_map, Array.getElem?_toList, hc] <;> rfl
def rangeD (lo : Int) (n : Nat) : List D := (List.range n).map fun (k : Nat) => .int (lo + (k : Int))
theorem walk_range {K : PySem.W.Frag} {Hs0 : Hp} {lo : Int} {n : Nat} : WalkJ K (Itr lo n) Hs0 (rangeD lo n) where
  stop := fun i H s hi => by
    show n ≤ i
    simpa [rangeD] using hi
  go := fun i H s hi => by
    show i < n
    simpa [rangeD] using hi
  yld := fun i v H H' F B Hs S σ s rep hi y => by
    obtain ⟨e, rfl⟩ := y
    subst e
    have hi' : i < n := by simpa [rangeD] using hi
    refine ⟨.int (lo + i), Hs, ?_, .refl _, rep, .int _⟩
    unfold rangeD
    rw [List.getElem?_map, List.getElem?_range hi'] <;> rfl
/-- a list, a tuple, a text -/
def itemsD : D → Option (List D)
  | .lst ds => some ds
  | .tup ds => some ds
  | .scr ds => some ds
  | .str x => some (signsD x)
  | _ => none
def iDat (f : Sm) : Si := fun C S => (sFz f C S).bind fun d S1 => match itemsD d with
  | some ds => .ok ds S1
  | none => .bad
section
variable {X : Cx} {W : WX} {C : Cc} {tg : Expr}
theorem fz_at {f : Sm} {F : Hp} {B : List V} {Hs : Hp} {S S1 : Env} {σ : St} {H : Hp} {d : D} (rep : Rep X.K F B Hs S σ H) (e : sFz f C S = .ok d S1) (Q1 : VK) (next : ∀ v H1 Hs1, Same Hs Hs1 → Rep X.K F B Hs1 S1 σ H1 → RV X.K Hs1 d v → Q1 v H1) : Eof X W C f σ H Q1 := by
  refine ⟨F, B, Hs, S, rep, ?_⟩
  unfold sFz at e
  cases e0 : f C S with
  | bad => rw [e0] at e; cases e
  | ex c ns ds S0 => rw [e0] at e; cases e
  | ok r S0 =>
    rw [e0] at e
    intro v H1 Hs1 s1 rep1 rr
    have e' : (match freeze r S0 with
      | some (d, S2) => O.ok d S2
      | none => O.bad) = .ok d S1 := e
    cases e1 : freeze r S0 with
    | none => rw [e1] at e'; cases e'
    | some q =>
      obtain ⟨d', S2⟩ := q
      rw [e1] at e'
      cases e'
      obtain ⟨Hs2, s2, rep2, rv⟩ := freeze_ok rep1 rr e1
      exact next v H1 Hs2 (s1.trans s2) rep2 rv
theorem fz_ex {f : Sm} {F : Hp} {B : List V} {Hs : Hp} {S S1 : Env} {σ : St} {H : Hp} {c : Str} {ns : List Str} {ds : List D} {α : Type} {P : α → Env → Hp → Hp → Prop} (rep : Rep X.K F B Hs S σ H) (e : sFz f C S = .ex c ns ds S1) (h : FinA X.K X.mg W F B Hs σ P (.ex c ns ds S1)) (Q1 : VK) : Eof X W C f σ H Q1 := by
  refine ⟨F, B, Hs, S, rep, ?_⟩
  unfold sFz at e
  cases e0 : f C S with
  | bad => rw [e0] at e; cases e
  | ex c' ns' ds' S0 => rw [e0] at e; cases e; exact h
  | ok r S0 =>
    rw [e0] at e
    have e' : (match freeze r S0 with
      | some (d, S2) => O.ok d S2
      | none => O.bad) = .ex c ns ds S1 := e
    cases e1 : freeze r S0 with
    | none => rw [e1] at e'; cases e'
    | some q => rw [e1] at e'; cases e'
theorem i_dat {iter : Expr} {f : Sm} (h : PE X iter (Eof X W C f)) : IterOk X W C tg iter (iDat f) := by
  refine ⟨fun σ H R => iList X.K (Eof X W C f) σ H R ∨ iTup X.K (Eof X W C f) σ H R ∨ iStr (Eof X W C f) σ H R, ⟨fun pins s σ H R I q => ?_⟩, fun F B Hs S σ H R rep fin => ?_⟩
  · rcases q with q | q | q
    · exact (pi_list h).run pins s σ H R I q
    · exact (pi_tup h).run pins s σ H R I q
    · exact (pi_str h).run pins s σ H R I q
  · unfold iDat at fin
    cases e : sFz f C S with
    | bad => rw [e] at fin; exact fin.elim
    | ex c ns ds S1 => rw [e] at fin; exact .inl (fz_ex rep e fin _)
    | ok d S1 =>
      rw [e] at fin
      have fin' : FinA X.K X.mg W F B Hs σ (fun ds S' Hs' H' => ∀ J, WalkJ X.K J Hs' ds → R J H') (match itemsD d with
        | some ds => O.ok ds S1
        | none => O.bad) := fin
      cases d with
      | lst ds =>
        refine .inl (fz_at rep e _ fun v H1 Hs1 s1 rep1 rv => ?_)
        cases rv with
        | @lst a vs _ hl r => exact ⟨a, rfl, ⟨vs, SqL.of (rep1.sub _ _ hl)⟩, fin' H1 Hs1 s1 rep1 _ (walk_list (SqL.of hl) r)⟩
      | scr ds =>
        refine .inl (fz_at rep e _ fun v H1 Hs1 s1 rep1 rv => ?_)
        cases rv with
        | @scr a vs _ hl r => exact ⟨a, rfl, ⟨vs, rep1.sub.seq hl⟩, fin' H1 Hs1 s1 rep1 _ (walk_list hl r)⟩
      | tup ds =>
        refine .inr (.inl (fz_at rep e _ fun v H1 Hs1 s1 rep1 rv => ?_))
        cases rv with
        | @tup a vs _ hl r => exact ⟨a, rfl, ⟨vs, sqT_same rep1.sub hl⟩, fin' H1 Hs1 s1 rep1 _ (walk_tup hl r)⟩
      | str x =>
        refine .inr (.inr (fz_at rep e _ fun v H1 Hs1 s1 rep1 rv => ?_))
        cases rv
        exact ⟨x, rfl, fin' H1 Hs1 s1 rep1 _ walk_str⟩
      | non => exact fin'.elim
      | bl b => exact fin'.elim
      | int b => exact fin'.elim
      | dct ks vs => exact fin'.elim
      | ins c ns vs => exact fin'.elim
/-- range(n), range(a, b) -/
def rgOk (i : Int) : Prop := i.natAbs < 4611686018427387904
instance rgOk_dec (i : Int) : Decidable (rgOk i) := inferInstanceAs (Decidable (i.natAbs < 4611686018427387904))
theorem rgOk_lo {i : Int} (h : rgOk i) : -(2 ^ 62) ≤ i := by unfold rgOk at h; omega
theorem rgOk_hi {i : Int} (h : rgOk i) : i < 2 ^ 62 := by unfold rgOk at h; omega
theorem rgOk_nat {n : Nat} (h : n < 4611686018427387904) : rgOk (n : Int) := by unfold rgOk; omega
def iRg (f : Srl) : Si := fun C S => (f C S).bind fun rs S1 => match pks rs S1 with
  | some [.int j] => if rgOk j then .ok (rangeD 0 j.toNat) S1 else .bad
  | some [.int i, .int j] => if rgOk i ∧ rgOk j then .ok (rangeD i (j - i).toNat) S1 else .bad
  | _ => .bad
theorem i_range1 {a : Expr} {f : Srl} {p pos : Pos} (hg : Gl X "range") (hm : X.mg "range" = none) (ha : PA X [a] (Rof X W C f)) (h1 : ∀ C S rs S1, f C S = .ok rs S1 → rs.length = 1) (hs : starEach [a] X.env = [(false, eval a X.env)]) : IterOk X W C tg (.Call (.Name "range" p) [a] [] pos) (iRg f) := by
  refine ⟨_, pi_range1 hg hm ha hs, fun F B Hs S σ H R rep fin => ?_⟩
  unfold iRg at fin
  refine ⟨F, B, Hs, S, rep, ?_⟩
  cases e : f C S with
  | bad => rw [e] at fin; exact fin
  | ex c ns ds S1 => rw [e] at fin; exact fin
  | ok rs S1 =>
    rw [e] at fin
    intro H1 Hs1 s1 rep1 vs rws
    have hl := h1 C S rs S1 e
    have fin' : FinA X.K X.mg W F B Hs σ (fun ds S' Hs' H' => ∀ J, WalkJ X.K J Hs' ds → R J H') (match pks rs S1 with
      | some [.int j] => if rgOk j then .ok (rangeD 0 j.toNat) S1 else .bad
      | some [.int i, .int j] => if rgOk i ∧ rgOk j then .ok (rangeD i (j - i).toNat) S1 else .bad
      | _ => .bad) := fin
    split at fin'
    · rename_i j ej
      have ps := pks_ok rep1 rws ej
      obtain ⟨v, rfl, p⟩ := ps.one
      obtain rfl := p.int
      split at fin'
      · rename_i c
        exact ⟨j, rfl, rgOk_lo c, rgOk_hi c, fin' H1 Hs1 s1 rep1 _ walk_range⟩
      · exact fin'.elim
    · rename_i i j ej
      exfalso
      cases rs with
      | nil => cases hl
      | cons r rs =>
        cases rs with
        | nil =>
          simp only [pks, Option.bind_eq_some_iff, Option.map_eq_some_iff] at ej
          obtain ⟨_, _, ds, hds, e3⟩ := ej
          cases hds
          cases e3
        | cons _ _ => cases hl
    · exact fin'.elim
theorem i_range2 {a b : Expr} {f : Srl} {p pos : Pos} (hg : Gl X "range") (hm : X.mg "range" = none) (ha : PA X [a, b] (Rof X W C f)) (h1 : ∀ C S rs S1, f C S = .ok rs S1 → rs.length = 2) (hs : starEach [a, b] X.env = [(false, eval a X.env), (false, eval b X.env)]) (hs2 : starEach [b] X.env = [(false, eval b X.env)]) : IterOk X W C tg (.Call (.Name "range" p) [a, b] [] pos) (iRg f) := by
  refine ⟨_, pi_range2 hg hm ha hs hs2, fun F B Hs S σ H R rep fin => ?_⟩
  unfold iRg at fin
  refine ⟨F, B, Hs, S, rep, ?_⟩
  cases e : f C S with
  | bad => rw [e] at fin; exact fin
  | ex c ns ds S1 => rw [e] at fin; exact fin
  | ok rs S1 =>
    rw [e] at fin
    intro H1 Hs1 s1 rep1 vs rws
    have hl := h1 C S rs S1 e
    have fin' : FinA X.K X.mg W F B Hs σ (fun ds S' Hs' H' => ∀ J, WalkJ X.K J Hs' ds → R J H') (match pks rs S1 with
      | some [.int j] => if rgOk j then .ok (rangeD 0 j.toNat) S1 else .bad
      | some [.int i, .int j] => if rgOk i ∧ rgOk j then .ok (rangeD i (j - i).toNat) S1 else .bad
      | _ => .bad) := fin
    split at fin'
    · rename_i j ej
      exfalso
      have ps := pks_ok rep1 rws ej
      obtain ⟨v, rfl, p⟩ := ps.one
      cases rws with
      | cons _ t => cases t; cases hl
    · rename_i i j ej
      have ps := pks_ok rep1 rws ej
      obtain ⟨v, u, rfl, p, p'⟩ := ps.two
      obtain rfl := p.int
      obtain rfl := p'.int
      split at fin'
      · rename_i c
        exact ⟨i, j, rfl, ⟨rgOk_lo c.1, rgOk_hi c.1, rgOk_lo c.2, rgOk_hi c.2⟩, fin' H1 Hs1 s1 rep1 _ walk_range⟩
      · exact fin'.elim
    · exact fin'.elim

/-! ### for -/
def forL (C : Cc) (t : Tg) (body : Sg) : List D → Env → OS
  | [], S => .nx S
  | d :: ds, S => match t d S with
    | none => .bad
    | some S1 => match body C S1 with
      | .nx S2 => forL C t body ds S2
      | .ct S2 => forL C t body ds S2
      | .bk S2 => .nx S2
      | .rt r S2 => .rt r S2
      | .ex c ns es S2 => .ex c ns es S2
      | .bad => .bad
def sFor (it : Si) (t : Tg) (body : Sg) : Sg := fun C S => (it C S).bindS fun ds S1 => forL C t body ds S1
theorem b_for {iter tg : Expr} {body : List Stmt} {f : Si} {is : List Nat} {t : Tg} {g : Sg} {pos : Pos} (hp : PassesOwn (model X.prog X.w) X.A X.env X.xe) (hc : X.calm = true) (hi : IterOk X W C tg iter f) (hg : TgOk X tg is t) (hb : PSs X body (Sof X W C g))
    (hs : ∀ x, foldedSetIterable iter X.env x = pure x) : PS X (.For tg iter body [] pos) (Sof X W C (sFor f t g)) := by
  obtain ⟨wi, h1, h2⟩ := hi
  obtain ⟨gg, p, q⟩ := hg
  refine PS.wk (ps_for hp hc h1 p hb hs) fun σ H E ⟨F, B, Hs, S, rep, fin⟩ => ?_
  unfold sFor at fin
  refine h2 F B Hs S σ H _ rep ?_
  cases e : f C S with
  | bad => rw [e] at fin; exact fin
  | ex c ns ds S1 => rw [e] at fin; exact fun cls d H1 Hs1 s1 rep1 xr => fin cls d σ H1 Hs1 s1 rep1 xr
  | ok ds S1 =>
    rw [e] at fin
    intro H1 Hs1 s1 rep1 J wj
    have fin1 : FinS X.K X.mg W F B Hs1 E (forL C t g ds S1) := FinS.later s1 fin
    refine ⟨fun i m σ H => m = ds.length - i ∧ i ≤ ds.length ∧ ∃ Hs' S', Same Hs1 Hs' ∧ Rep X.K F B Hs' S' σ H ∧ FinS X.K X.mg W F B Hs' E (forL C t g (ds.drop i) S'), ⟨ds.length, by simp, Nat.zero_le _, Hs1, S1, .refl _, rep1, fin1⟩, ?_⟩
    rintro i m σ2 H2 ⟨rfl, hi, Hs2, S2, s2, rep2, fin2⟩
    by_cases hlt : i < ds.length
    · refine .inr ⟨wj.go i H2 (s2.trans rep2.sub) hlt, fun σ' H' => ∃ m', m' < ds.length - i ∧ m' = ds.length - (i + 1) ∧ i + 1 ≤ ds.length ∧ ∃ Hs' S', Same Hs1 Hs' ∧ Rep X.K F B Hs' S' σ' H' ∧ FinS X.K X.mg W F B Hs' E (forL C t g (ds.drop (i + 1)) S'), fun σ' H' ⟨m', h3, h4⟩ => ⟨m', h3, h4⟩, fun x H3 y => ?_⟩
      obtain ⟨d, Hs3, hd, s3, rep3, rv⟩ := wj.yld i x H2 H3 F B Hs2 S2 σ2 s2 rep2 hlt y
      have hd' : ds.drop i = d :: ds.drop (i + 1) := by
        rw [List.drop_eq_getElem_cons hlt]
        congr 1
        rw [List.getElem?_eq_getElem hlt] at hd
        exact Option.some.inj hd
      rw [hd'] at fin2
      unfold forL at fin2
      cases e1 : t d S2 with
      | none => rw [e1] at fin2; exact fin2.elim
      | some S3 =>
        rw [e1] at fin2
        simp only at fin2
        refine q F B Hs3 S2 σ2 H3 d x S3 _ rep3 rv e1 fun σ4 rep4 _ => ?_
        refine ⟨F, B, Hs3, S3, rep4, ?_⟩
        have again : ∀ S5, FinS X.K X.mg W F B Hs2 E (forL C t g (ds.drop (i + 1)) S5) → ∀ σ' H' Hs', Same Hs3 Hs' → Rep X.K F B Hs' S5 σ' H' → ∃ m', m' < ds.length - i ∧ m' = ds.length - (i + 1) ∧ i + 1 ≤ ds.length ∧ ∃ Hs' S', Same Hs1 Hs' ∧ Rep X.K F B Hs' S' σ' H' ∧ FinS X.K X.mg W F B Hs' E (forL C t g (ds.drop (i + 1)) S') := fun S5 fin5 σ' H' Hs' s' rep' =>
          ⟨ds.length - (i + 1), by omega, rfl, hlt, Hs', S5, (s2.trans s3).trans s', rep', fin5.later (s3.trans s')⟩
        cases e2 : g C S3 with
        | nx S5 => rw [e2] at fin2; exact again S5 fin2
        | ct S5 => rw [e2] at fin2; exact again S5 fin2
        | bk S5 => rw [e2] at fin2; exact fun σ' H' Hs' s' rep' => fin2 σ' H' Hs' (s3.trans s') rep'
        | rt r S5 => rw [e2] at fin2; exact fun v σ' H' Hs' s' rep' rr => fin2 v σ' H' Hs' (s3.trans s') rep' rr
        | ex c ns es S5 => rw [e2] at fin2; exact fun cls d σ' H' Hs' s' rep' xr => fin2 cls d σ' H' Hs' (s3.trans s') rep' xr
        | bad => rw [e2] at fin2; exact fin2
    · have e3 : i = ds.length := by omega
      subst e3
      rw [List.drop_length] at fin2
      exact .inl ⟨wj.stop _ H2 (s2.trans rep2.sub) (Nat.le_refl _), fin2 σ2 H2 Hs2 (.refl _) rep2⟩

/-! ### while -/
def whL (C : Cc) (c : Sb) (body : Sg) : Nat → Env → OS
  | 0, _ => .bad
  | n + 1, S => (c C S).bindS fun b S1 => match b with
    | false => .nx S1
    | true => match body C S1 with
      | .nx S2 => whL C c body n S2
      | .ct S2 => whL C c body n S2
      | .bk S2 => .nx S2
      | .rt r S2 => .rt r S2
      | .ex c ns es S2 => .ex c ns es S2
      | .bad => .bad
def sWh (c : Sb) (body : Sg) : Sg := fun C S => whL C c body C.fuel S
theorem b_while {c : Expr} {body : List Stmt} {t : Sb} {g : Sg} {pos : Pos} (hp : PassesOwn (model X.prog X.w) X.A X.env X.xe) (hc : PT X c (Tof X W C t)) (hb : PSs X body (Sof X W C g)) : PS X (.While c body [] pos) (Sof X W C (sWh t g)) := by
  refine PS.wk (ps_while hp hc hb) fun σ H E ⟨F, B, Hs, S, rep, fin⟩ => ?_
  refine ⟨fun m σ H => ∃ Hs' S', Same Hs Hs' ∧ Rep X.K F B Hs' S' σ H ∧ FinS X.K X.mg W F B Hs' E (whL C t g m S'), ⟨C.fuel, Hs, S, .refl _, rep, fin⟩, ?_⟩
  rintro m σ1 H1 ⟨Hs1, S1, s1, rep1, fin1⟩
  cases m with
  | zero => exact fin1.elim
  | succ m =>
    unfold whL at fin1
    refine tofS rep1 fin1 _ fun b S2 H2 Hs2 s2 rep2 fin2 => ?_
    cases b with
    | false => exact (if_neg Bool.false_ne_true).mpr (fin2 σ1 H2 Hs2 (.refl _) rep2)
    | true =>
      refine (if_pos rfl).mpr ⟨fun σ' H' => ∃ Hs' S', Same Hs Hs' ∧ Rep X.K F B Hs' S' σ' H' ∧ FinS X.K X.mg W F B Hs' E (whL C t g m S'), fun σ' H' w => ⟨m, Nat.lt_succ_self _, w⟩, F, B, Hs2, S2, rep2, ?_⟩
      simp only at fin2
      cases e2 : g C S2 with
      | nx S5 => rw [e2] at fin2; exact fun σ' H' Hs' s' rep' => ⟨Hs', S5, (s1.trans s2).trans s', rep', FinS.later s' fin2⟩
      | ct S5 => rw [e2] at fin2; exact fun σ' H' Hs' s' rep' => ⟨Hs', S5, (s1.trans s2).trans s', rep', FinS.later s' fin2⟩
      | bk S5 => rw [e2] at fin2; exact fin2
      | rt r S5 => rw [e2] at fin2; exact fin2
      | ex c ns es S5 => rw [e2] at fin2; exact fin2
      | bad => rw [e2] at fin2; exact fin2
end
end Kn

/-! Kn9 -/
/-! Kn part 9: list comprehensions; rows of values that may be new; parallel stores; calls of own defs. -/
namespace Kn
open PySem PySem.Spec PyProof.Rows L2

/-! ### comprehensions -/
def wipeE (S : Env) : List Nat → Env
  | [] => S
  | v :: vs => (wipeE S vs).set v .non
def plainAt (S : Env) (i : Nat) : Bool := match S[i]? with
  | some (.val _) => true
  | some .non => true
  | _ => false
def restoreE (S0 S : Env) : List Nat → Env
  | [] => S
  | v :: vs => (restoreE S0 S vs).set v (S0.getD v .non)
def cmL (C : Cc) (t : Tg) (ifs : Sb) (elt : Sm) (vs : List Nat) : List D → List D → Env → O (List D)
  | [], acc, S => .ok acc S
  | d :: ds, acc, S => match t d S with
    | none => .bad
    | some S1 => match ifs C S1 with
      | .ok true S2 => (match sFz elt C S2 with
        | .ok y S3 => if acc.length < 16777216 then cmL C t ifs elt vs ds (acc ++ [y]) (wipeE S3 vs) else .bad
        | _ => .bad)
      | .ok false S2 => cmL C t ifs elt vs ds acc (wipeE S2 vs)
      | _ => .bad
def sLc (it : Si) (t : Tg) (ifs : Sb) (elt : Sm) (vs : List Nat) : Sm := fun C S => (it C S).bind fun ds S1 =>
  if vs.all (plainAt S1) = true then (cmL C t ifs elt vs ds [] (wipeE S1 vs)).bind fun acc S2 => .ok (.fr (.lst acc)) (restoreE S1 S2 vs) else .bad
def sYes : Sb := fun _ S => .ok true S

section
variable {K : PySem.W.Frag} {F : Hp} {B : List V} {Hs : Hp} {S : Env} {σ : St} {H : Hp}
theorem wipeE_length : ∀ (vs : List Nat), (wipeE S vs).length = S.length
  | [] => rfl
  | v :: vs => by unfold wipeE; rw [List.length_set, wipeE_length vs]
theorem wipeE_some {i : Nat} {s : Slot} : ∀ {vs : List Nat}, (wipeE S vs)[i]? = some s → s ≠ .non → S[i]? = some s ∧ i ∉ vs
  | [], h, _ => ⟨h, by simp⟩
  | v :: vs, h, n => by
    unfold wipeE at h
    by_cases hi : v = i
    · subst hi
      by_cases hv : v < (wipeE S vs).length
      · rw [List.getElem?_set_self hv] at h; cases h; exact absurd rfl n
      · rw [List.getElem?_eq_none (by simpa using hv)] at h; cases h
    · rw [List.getElem?_set_ne hi] at h
      obtain ⟨h1, h2⟩ := wipeE_some h n
      exact ⟨h1, by simp only [List.mem_cons, not_or]; exact ⟨fun e => hi e.symm, h2⟩⟩
/-- fewer slots are told -/
theorem Rep.less (r : Rep K F B Hs S σ H) {S' : Env} {σ' : St} (hl : S'.length ≤ σ'.length) (h : ∀ (i : Nat) (s : Slot), S'[i]? = some s → s ≠ .non → S[i]? = some s ∧ σ'[i]? = σ[i]?) : Rep K F B Hs S' σ' H := by
  have nn : ∀ {s : Slot}, s.mut.isSome = true → s ≠ .non := fun m z => by subst z; cases m
  refine ⟨r.sub, r.frm, r.dis, hl, fun i d e => ?_, fun i s d e m => ?_, fun i d e => ?_, fun i j s t a e1 e2 m1 m2 z1 z2 => ?_⟩
  · obtain ⟨h1, h2⟩ := h i _ e (fun z => nomatch z)
    rw [h2]; exact r.val i d h1
  · obtain ⟨h1, h2⟩ := h i _ e (nn (by rw [m]; rfl))
    rw [h2]; exact r.own i s d h1 m
  · obtain ⟨h1, h2⟩ := h i _ e (fun z => nomatch z)
    rw [h2]; exact r.bor i d h1
  · obtain ⟨h1, h2⟩ := h i _ e1 (nn m1)
    obtain ⟨h3, h4⟩ := h j _ e2 (nn m2)
    rw [h2] at z1
    rw [h4] at z2
    exact r.inj i j s t a h1 h3 m1 m2 z1 z2
theorem wipe_out' {i : Nat} : ∀ {vs : List Nat}, i ∉ vs → (wipe σ vs)[i]? = σ[i]?
  | [], _ => rfl
  | v :: vs, h => by
    unfold wipe
    rw [List.getElem?_set_ne (fun z => h (by rw [z]; exact List.mem_cons_self)), wipe_out' fun z => h (List.mem_cons_of_mem _ z)]
theorem Rep.wipe (r : Rep K F B Hs S σ H) (vs : List Nat) : Rep K F B Hs (wipeE S vs) (L2.wipe σ vs) H :=
  r.less (by rw [wipeE_length, wipe_length]; exact r.len) fun i s e n => by
    obtain ⟨h1, h2⟩ := wipeE_some e n
    exact ⟨h1, wipe_out' h2⟩
theorem restoreE_some {S0 : Env} {i : Nat} {s : Slot} : ∀ {vs : List Nat}, (restoreE S0 S vs)[i]? = some s → (i ∈ vs ∧ s = S0.getD i .non) ∨ (i ∉ vs ∧ S[i]? = some s)
  | [], h => .inr ⟨by simp, h⟩
  | v :: vs, h => by
    unfold restoreE at h
    by_cases hi : v = i
    · subst hi
      by_cases hv : v < (restoreE S0 S vs).length
      · rw [List.getElem?_set_self hv] at h; cases h; exact .inl ⟨List.mem_cons_self, rfl⟩
      · rw [List.getElem?_eq_none (by simpa using hv)] at h; cases h
    · rw [List.getElem?_set_ne hi] at h
      rcases restoreE_some h with ⟨h1, h2⟩ | ⟨h1, h2⟩
      · exact .inl ⟨List.mem_cons_of_mem _ h1, h2⟩
      · exact .inr ⟨by simp only [List.mem_cons, not_or]; exact ⟨fun e => hi e.symm, h1⟩, h2⟩
theorem restoreE_length {S0 : Env} : ∀ (vs : List Nat), (restoreE S0 S vs).length = S.length
  | [] => rfl
  | v :: vs => by unfold restoreE; rw [List.length_set, restoreE_length vs]
/-- behind the block the frame's own names are as they were -/
theorem Rep.restore {Hs0 H0 : Hp} {S0 : Env} {vs : List Nat} (r0 : Rep K F B Hs0 S0 σ H0) (s : Same Hs0 Hs) (r : Rep K F B Hs S (L2.wipe σ vs) H) (hp : vs.all (plainAt S0) = true) : Rep K F B Hs (restoreE S0 S vs) σ H := by
  have key : ∀ (i : Nat) (t : Slot), (restoreE S0 S vs)[i]? = some t → t ≠ .non → (∃ d v, t = .val d ∧ σ[i]? = some (some v) ∧ RV K Hs d v) ∨ (S[i]? = some t ∧ (L2.wipe σ vs)[i]? = σ[i]?) := fun i t e n => by
    rcases restoreE_some e with ⟨h1, h2⟩ | ⟨h1, h2⟩
    · have hq := List.all_eq_true.mp hp i h1
      unfold plainAt at hq
      rw [List.getD_eq_getElem?_getD] at h2
      split at hq
      · rename_i d hd
        rw [hd] at h2
        obtain ⟨v, z1, z2⟩ := r0.val i d hd
        exact .inl ⟨d, v, h2, z1, z2.mono s⟩
      · rename_i hd
        rw [hd] at h2
        exact absurd h2 n
      · cases hq
    · exact .inr ⟨h2, wipe_out' h1⟩
  have hl : (restoreE S0 S vs).length ≤ σ.length := by rw [restoreE_length, ← wipe_length σ vs]; exact r.len
  refine ⟨r.sub, r.frm, r.dis, hl, fun i d e => ?_, fun i t d e m => ?_, fun i d e => ?_, fun i j t u a e1 e2 m1 m2 z1 z2 => ?_⟩
  · rcases key i _ e (fun z => nomatch z) with ⟨d', v, h1, h2, h3⟩ | ⟨h1, h2⟩
    · cases h1; exact ⟨v, h2, h3⟩
    · rw [← h2]; exact r.val i d h1
  · rcases key i _ e (fun z => by subst z; cases m) with ⟨d', v, h1, h2, h3⟩ | ⟨h1, h2⟩
    · subst h1; cases m
    · rw [← h2]; exact r.own i t d h1 m
  · rcases key i _ e (fun z => nomatch z) with ⟨d', v, h1, h2, h3⟩ | ⟨h1, h2⟩
    · cases h1
    · rw [← h2]; exact r.bor i d h1
  · rcases key i _ e1 (fun z => by subst z; cases m1) with ⟨d', v, h1, h2, h3⟩ | ⟨h1, h2⟩
    · subst h1; cases m1
    · rcases key j _ e2 (fun z => by subst z; cases m2) with ⟨d', v, h3, h4, h5⟩ | ⟨h3, h4⟩
      · subst h3; cases m2
      · rw [← h2] at z1
        rw [← h4] at z2
        exact r.inj i j t u a h1 h3 m1 m2 z1 z2
end
section
variable {X : Cx} {C : Cc}
/-- what is wanted where nothing may be raised -/
abbrev W0 : WX := fun _ _ _ _ => False
theorem lc_ok {W : WX} {tg iter : Expr} {it : Si} {is vs : List Nat} {t : Tg} {g : TG} {ifs : Sb} {elt : Sm} {wi : TI} {tt : TT}
    (h2 : ∀ (F : Hp) (B : List V) (Hs : Hp) (S : Env) (σ : St) (H : Hp) (R : It → Hp → Prop), Rep X.K F B Hs S σ H → FinA X.K X.mg W F B Hs σ (fun ds S' Hs' H' => ∀ J, WalkJ X.K J Hs' ds → R J H') (it C S) → wi σ H R)
    (q : TgSem X.K is t g) (hv : ∀ i ∈ is, i ∈ vs) (htt : ∀ σ H Q, Tof X W0 C ifs σ H Q → tt σ H Q) {σ : St} {H : Hp} {Q : VK} (h : Eof X W C (sLc it t ifs elt vs) σ H Q) : tLc wi g tt (Eof X W0 C elt) vs σ H Q := by
  obtain ⟨F, B, Hs, S, rep, fin⟩ := h
  have fin0 := fin.to
  unfold sLc at fin0
  refine h2 F B Hs S σ H _ rep ?_
  cases e : it C S with
  | bad => rw [e] at fin0; exact fin0
  | ex c ns ds S1 => rw [e] at fin0; exact fin0
  | ok ds S1 =>
    rw [e] at fin0
    intro H1 Hs1 s1 rep1 J wj A hA
    have fin1 : FinA X.K X.mg W F B Hs1 σ (fun r S' Hs' H' => ∀ v, RR X.K F Hs' S' σ H' r v → Q v H') (if vs.all (plainAt S1) = true then (cmL C t ifs elt vs ds [] (wipeE S1 vs)).bind fun acc S2 => .ok (.fr (.lst acc)) (restoreE S1 S2 vs) else .bad) := FinA.later s1 fin0
    by_cases hp : vs.all (plainAt S1) = true
    · rw [if_pos hp] at fin1
      have hnA := rep1.none_of hA
      have repw := ((rep1.wipe vs).new (o := .lst []) hA).guard upd_same hnA.1 ((rep1.wipe vs).apart_new hA)
      refine ⟨fun i m H => m = ds.length - i ∧ i ≤ ds.length ∧ ∃ Hs' S' acc vacc, Same Hs1 Hs' ∧ Rep X.K (upd F A (.lst vacc)) B Hs' S' (L2.wipe σ vs) H ∧ RVs X.K Hs' acc vacc ∧
        FinA X.K X.mg W F B Hs' σ (fun r S' Hs' H' => ∀ v, RR X.K F Hs' S' σ H' r v → Q v H') ((cmL C t ifs elt vs (ds.drop i) acc S').bind fun acc S2 => .ok (.fr (.lst acc)) (restoreE S1 S2 vs)), ⟨ds.length, by simp, Nat.zero_le _, Hs1, wipeE S1 vs, [], [], .refl _, repw, .nil, fin1⟩, ?_⟩
      rintro i m H2 ⟨rfl, hi, Hs2, S2, acc, vacc, s2, rep2, ra, fin2⟩
      by_cases hlt : i < ds.length
      · refine .inr ⟨wj.go i H2 (s2.trans rep2.sub) hlt, fun H' => ∃ m', m' < ds.length - i ∧ m' = ds.length - (i + 1) ∧ i + 1 ≤ ds.length ∧ ∃ Hs' S' acc vacc, Same Hs1 Hs' ∧ Rep X.K (upd F A (.lst vacc)) B Hs' S' (L2.wipe σ vs) H' ∧ RVs X.K Hs' acc vacc ∧
          FinA X.K X.mg W F B Hs' σ (fun r S' Hs' H' => ∀ v, RR X.K F Hs' S' σ H' r v → Q v H') ((cmL C t ifs elt vs (ds.drop (i + 1)) acc S').bind fun acc S2 => .ok (.fr (.lst acc)) (restoreE S1 S2 vs)), fun H' ⟨m', h3, h4⟩ => ⟨m', h3, h4⟩, fun x H3 y => ?_⟩
        obtain ⟨d, Hs3, hd, s3, rep3, rv⟩ := wj.yld i x H2 H3 (upd F A (.lst vacc)) B Hs2 S2 (L2.wipe σ vs) s2 rep2 hlt y
        have hd' : ds.drop i = d :: ds.drop (i + 1) := by
          rw [List.drop_eq_getElem_cons hlt]
          congr 1
          rw [List.getElem?_eq_getElem hlt] at hd
          exact Option.some.inj hd
        rw [hd'] at fin2
        unfold cmL at fin2
        cases e1 : t d S2 with
        | none => rw [e1] at fin2; exact fin2.elim
        | some S3 =>
          rw [e1] at fin2
          simp only at fin2
          refine q _ B Hs3 S2 (L2.wipe σ vs) H3 d x S3 _ rep3 rv e1 fun σ4 rep4 wd => ?_
          have hw4 : L2.wipe σ4 vs = L2.wipe σ vs := by
            have z := wd vs hv
            unfold wiped at z
            rw [z]
            have zz : ∀ (ws : List Nat) (τ : St), L2.wipe (L2.wipe τ ws) ws = L2.wipe τ ws := by
              intro ws τ
              have : ∀ (us : List Nat) (τ : St), (∀ u ∈ us, ∀ x, τ[u]? = some x → x = none) → L2.wipe τ us = τ := by
                intro us
                induction us with
                | nil => intro τ _; rfl
                | cons u us ih =>
                  intro τ hh
                  unfold L2.wipe
                  rw [ih τ fun w hw => hh w (List.mem_cons_of_mem _ hw)]
                  apply List.ext_getElem?
                  intro k
                  by_cases hk : u = k
                  · subst hk
                    by_cases hl : u < τ.length
                    · rw [List.getElem?_set_self hl]
                      have e5 : τ[u]? = some τ[u] := List.getElem?_eq_getElem hl
                      have e6 := hh u List.mem_cons_self _ e5
                      rw [e5, e6]
                    · rw [List.getElem?_eq_none (by simpa using hl), List.getElem?_eq_none (by simpa using hl)]
                  · rw [List.getElem?_set_ne hk]
              refine this ws _ fun u hu x hx => ?_
              cases x with
              | none => rfl
              | some v => exact absurd hu (wipe_some hx).2
            exact zz vs σ
          refine ⟨hw4, htt _ _ _ ⟨_, B, Hs3, S3, rep4, ?_⟩⟩
          cases e2 : ifs C S3 with
          | bad => rw [e2] at fin2; exact fin2.elim
          | ex c ns es S4 => rw [e2] at fin2; exact fin2.elim
          | ok b S4 =>
            rw [e2] at fin2
            intro H4 Hs4 s4 rep5
            have back : ∀ {S : Env} {Hs' H' F' : Hp}, Rep X.K F' B Hs' S σ4 H' → Rep X.K F' B Hs' (wipeE S vs) (L2.wipe σ vs) H' := fun r => by rw [← hw4]; exact r.wipe vs
            cases b with
            | false =>
              refine (if_neg Bool.false_ne_true).mpr ⟨ds.length - (i + 1), by omega, rfl, hlt, Hs4, wipeE S4 vs, acc, vacc, (s2.trans s3).trans s4, back rep5, ra.mono (s3.trans s4), fin2.later (s3.trans s4)⟩
            | true =>
              refine (if_pos rfl).mpr ?_
              simp only at fin2
              cases e3 : sFz elt C S4 with
              | bad => rw [e3] at fin2; exact fin2.elim
              | ex c ns es S5 => rw [e3] at fin2; exact fin2.elim
              | ok yd S5 =>
                rw [e3] at fin2
                simp only at fin2
                by_cases hz : acc.length < 16777216
                · rw [if_pos hz] at fin2
                  refine fz_at rep5 e3 _ fun yv H5 Hs5 s5 rep6 ry => ?_
                  have hFA : F A = none := hnA.2
                  obtain ⟨rep7, g1, g2, g3⟩ := rep6.unguard hFA
                  refine ⟨vacc, g1, by rw [sizeLine_eq, ← ra.length]; exact hz, ds.length - (i + 1), by omega, rfl, hlt, Hs5, wipeE S5 vs, acc ++ [yd], vacc ++ [yv], ((s2.trans s3).trans s4).trans s5, ?_, (ra.mono ((s3.trans s4).trans s5)).append (.cons ry .nil), fin2.later ((s3.trans s4).trans s5)⟩
                  have rep8 := back rep7
                  have g3' : Apart (wipeE S5 vs) (L2.wipe σ vs) A := fun j s e m z => by
                    have nn : s ≠ .non := fun w => by subst w; cases m
                    obtain ⟨y1, y2⟩ := wipeE_some e nn
                    rw [← hw4, wipe_out' y2] at z
                    exact g3 j s y1 m z
                  -- the list grows
                  refine ⟨fun b u w => ?_, fun b u w => ?_, fun b u w => ?_, rep8.len, rep8.val, fun j s d w m => ?_, rep8.bor, rep8.inj⟩
                  · rw [upd_ne (ne_of_none w g2)]; exact rep8.sub _ _ w
                  · by_cases hb : b = A
                    · subst hb; rw [upd_same] at w ⊢; exact w
                    · rw [upd_ne hb] at w ⊢; exact rep8.frm _ _ w
                  · rw [upd_ne (ne_of_none w g2)]; exact rep8.dis _ _ w
                  · obtain ⟨a, o', y1, y2, y3, y4, y5⟩ := rep8.own j s d w m
                    have ne : a ≠ A := fun z => g3' j s w (by rw [m]; rfl) (by rw [← z]; exact y1)
                    exact ⟨a, o', y1, y2, by rw [upd_ne ne]; exact y3, by rw [upd_ne ne]; exact y4, y5⟩
                · rw [if_neg hz] at fin2; exact fin2.elim
      · have e3 : i = ds.length := by omega
        subst e3
        rw [List.drop_length] at fin2
        refine .inl ⟨wj.stop _ H2 (s2.trans rep2.sub) (Nat.le_refl _), ?_⟩
        obtain ⟨rep7, g1, g2, g3⟩ := rep2.unguard hnA.2
        have rep8 := rep1.restore (S := S2) (vs := vs) s2 rep7 hp
        refine fin2 H2 Hs2 (.refl _) rep8 (.ref A) ⟨A, _, rfl, g2, hnA.2, g1, .lst ra, fun j s e m z => ?_⟩
        rcases restoreE_some e with ⟨y1, y2⟩ | ⟨y1, y2⟩
        · have hq := List.all_eq_true.mp hp j y1
          unfold plainAt at hq
          rw [List.getD_eq_getElem?_getD] at y2
          split at hq
          · rename_i d hd; rw [hd] at y2; subst y2; cases m
          · rename_i hd; rw [hd] at y2; subst y2; cases m
          · cases hq
        · exact g3 j s y2 m (by rw [wipe_out' y1]; exact z)
    · rw [if_neg hp] at fin1; exact fin1.elim
end
end Kn

/-! Kn10 -/
/-! Kn part 10: rows of values that may be new or lent; parallel assignment; calls of own defs. -/
namespace Kn
open PySem PySem.Spec PyProof.Rows L2

/-! ### rows -/
inductive KRs (K : PySem.W.Frag) (Hs : Hp) (S : Env) (σ : St) (H F : Hp) : List Addr → List R → List V → Prop
  | nil {A : List Addr} : KRs K Hs S σ H F A [] []
  | val {A : List Addr} {d : D} {v : V} {rs : List R} {vs : List V} : RV K Hs d v → KRs K Hs S σ H F A rs vs → KRs K Hs S σ H F A (.val d :: rs) (v :: vs)
  | sl {A : List Addr} {i : Nat} {v : V} {rs : List R} {vs : List V} : σ[i]? = some (some v) → KRs K Hs S σ H F A rs vs → KRs K Hs S σ H F A (.sl i :: rs) (v :: vs)
  | fr {A : List Addr} {d : D} {a : Addr} {o : HO} {rs : List R} {vs : List V} : Hs a = none → F a = none → H a = some o → NodeR K Hs d o → Apart S σ a → a ∉ A → KRs K Hs S σ H F (a :: A) rs vs → KRs K Hs S σ H F A (.fr d :: rs) (.ref a :: vs)
section
variable {K : PySem.W.Frag} {F : Hp} {B : List V} {Hs Hs' : Hp} {S S' : Env} {σ : St} {H H' : Hp}
theorem KRs.unguard {p : Addr} {o : HO} (hf : F p = none) : ∀ {A A' : List Addr} {rs : List R} {vs : List V}, (∀ a, a ∈ A' → a ∈ A ∨ a = p) → KRs K Hs S σ H (upd F p o) A rs vs → KRs K Hs S σ H F A' rs vs
  | _, _, _, _, _, .nil => .nil
  | _, _, _, _, h, .val r t => .val r (KRs.unguard hf h t)
  | _, _, _, _, h, .sl r t => .sl r (KRs.unguard hf h t)
  | A, A', _, _, h, .fr (a := a) h1 h2 h3 h4 h5 h6 t => by
    have ne : a ≠ p := fun z => by rw [z, upd_same] at h2; cases h2
    refine .fr h1 (by rw [upd_ne ne] at h2; exact h2) h3 h4 h5 (fun m => ?_) (KRs.unguard hf (fun b hb => ?_) t)
    · rcases h a m with q | q
      · exact h6 q
      · exact ne q
    · rcases List.mem_cons.mp hb with q | q
      · exact .inl (by rw [q]; exact List.mem_cons_self)
      · rcases h b q with q | q
        · exact .inl (List.mem_cons_of_mem _ q)
        · exact .inr q
def adj (m : Nat) (r : R) (S : Env) : Option (R × Env) := match m with
  | 0 => (freeze r S).map fun p => (.val p.1, p.2)
  | 1 => thaw r S
  | _ => some (r, S)
theorem adj_ok {m : Nat} {r r' : R} {v : V} (rep : Rep K F B Hs S σ H) (rr : RR K F Hs S σ H r v) (e : adj m r S = some (r', S')) : ∃ Hs', Same Hs Hs' ∧ Rep K F B Hs' S' σ H ∧ RR K F Hs' S' σ H r' v := by
  unfold adj at e
  split at e
  · simp only [Option.map_eq_some_iff] at e
    obtain ⟨⟨d, S2⟩, h1, h2⟩ := e
    cases h2
    obtain ⟨Hs', z1, z2, z3⟩ := freeze_ok rep rr h1
    exact ⟨Hs', z1, z2, z3⟩
  · exact thaw_ok rep rr e
  · cases e; exact ⟨Hs, .refl _, rep, rr⟩
end
def sKNil : Srl := fun _ S => .ok [] S
def sKCons (m : Nat) (f : Sm) (g : Srl) : Srl := fun C S => (f C S).bind fun r S1 => match adj m r S1 with
  | some (r', S2) => (g C S2).bind fun rs S3 => .ok (r' :: rs) S3
  | none => .bad
def Kof (X : Cx) (W : WX) (C : Cc) (f : Srl) : TA := fun σ H Q => ∃ F B Hs S, Rep X.K F B Hs S σ H ∧ FinA X.K X.mg W F B Hs σ (fun rs S' Hs' H' => ∀ vs, KRs X.K Hs' S' σ H' F [] rs vs → Q vs H') (f C S)
section
variable {X : Cx} {W : WX} {C : Cc}
theorem kk_nil : PA X [] (Kof X W C sKNil) := PA.wk pa_nil fun σ H Q ⟨F, B, Hs, S, rep, fin⟩ => fin H Hs (.refl _) rep [] .nil
theorem kk_cons {m : Nat} {e : Expr} {es : List Expr} {f : Sm} {g : Srl} (he : PE X e (Eof X W C f)) (hs : PA X es (Kof X W C g)) (hst : starEach (e :: es) X.env = (false, eval e X.env) :: starEach es X.env) : PA X (e :: es) (Kof X W C (sKCons m f g)) := by
  refine PA.wk (pa_cons he hs hst) fun σ H Q ⟨F, B, Hs, S, rep, fin⟩ => ?_
  unfold sKCons at fin
  refine eof_bind rep fin _ fun r S1 v H1 Hs1 s1 rep1 rr fin1 => ?_
  cases e1 : adj m r S1 with
  | none => rw [e1] at fin1; exact fin1.elim
  | some p =>
    obtain ⟨r', S2⟩ := p
    rw [e1] at fin1
    obtain ⟨Hs2, s2, rep2, rr2⟩ := adj_ok rep1 rr e1
    have fin3 : FinA X.K X.mg W F B Hs2 σ (fun rs S' Hs' H' => ∀ vs, KRs X.K Hs' S' σ H' F [] rs vs → Q vs H') ((g C S2).bind fun rs S3 => .ok (r' :: rs) S3) := FinA.later s2 fin1
    cases r' with
    | val d =>
      refine ⟨F, B, Hs2, S2, rep2, ?_⟩
      cases e2 : g C S2 with
      | ok rs S3 => rw [e2] at fin3; exact fun H3 Hs3 s3 rep3 vs k => fin3 H3 Hs3 s3 rep3 (v :: vs) (.val (RV.mono s3 rr2) k)
      | ex c ns ds S3 => rw [e2] at fin3; exact fin3
      | bad => rw [e2] at fin3; exact fin3.elim
    | sl i =>
      refine ⟨F, B, Hs2, S2, rep2, ?_⟩
      cases e2 : g C S2 with
      | ok rs S3 => rw [e2] at fin3; exact fun H3 Hs3 s3 rep3 vs k => fin3 H3 Hs3 s3 rep3 (v :: vs) (.sl rr2.1 k)
      | ex c ns ds S3 => rw [e2] at fin3; exact fin3
      | bad => rw [e2] at fin3; exact fin3.elim
    | fr d =>
      obtain ⟨a, o, rfl, h1, h2, h3, h4, h5⟩ := rr2
      have rep4 := rep2.guard h3 h1 h5
      refine ⟨upd F a o, B, Hs2, S2, rep4, ?_⟩
      cases e2 : g C S2 with
      | ok rs S3 =>
        rw [e2] at fin3
        intro H3 Hs3 s3 rep3 vs k
        obtain ⟨rep5, g1, g2, g3⟩ := rep3.unguard h2
        refine fin3 H3 Hs3 s3 rep5 (.ref a :: vs) (.fr g2 h2 g1 (h4.mono s3) g3 (by simp) (k.unguard h2 fun b hb => ?_))
        rcases List.mem_cons.mp hb with q | q
        · exact .inr q
        · exact .inl q
      | ex c ns ds S3 => rw [e2] at fin3; exact FinA.guard_ex h2 fin3
      | bad => rw [e2] at fin3; exact fin3.elim
end

/-! ### a, b, .. = e1, e2, .. -/
def setAll : List Nat → List R → Env → Option Env
  | [], [], S => some S
  | i :: is, r :: rs, S => match r with
    | .sl _ => none
    | r => (setR i r S).bind fun S1 => setAll is rs S1
  | _, _, _ => none
def setV : List Nat → List V → St → St
  | i :: is, v :: vs, σ => setV is vs (σ.set i (some v))
  | _, _, σ => σ
section
variable {K : PySem.W.Frag} {F : Hp} {B : List V} {Hs Hs' : Hp} {S S' : Env} {σ : St} {H H' : Hp}
theorem setR_some {i : Nat} {r : R} (e : setR i r S = some S') : (∃ d, r = .val d ∧ S' = S.set i (.val d)) ∨ (∃ d, r = .fr d ∧ S' = S.set i (.own d)) := by
  unfold setR at e
  split at e <;> first | (cases e; done) | skip
  cases r with
  | val d => cases e; exact .inl ⟨d, rfl, rfl⟩
  | fr d => cases e; exact .inr ⟨d, rfl, rfl⟩
  | sl j => cases e
theorem KRs.setted {i : Nat} {s : Slot} {v : V} (h : ∀ a, s.mut.isSome = true → v = .ref a → ∀ A : List Addr, True) : True := trivial
theorem apart_set {i : Nat} {s : Slot} {v : V} {a : Addr} (h : s.mut.isSome = true → v ≠ .ref a) (ap : Apart S σ a) : Apart (S.set i s) (σ.set i (some v)) a := by
  intro j t e m q
  by_cases hj : i = j
  · subst hj
    by_cases hi : i < S.length
    · rw [List.getElem?_set_self hi] at e
      cases e
      by_cases hl : i < σ.length
      · rw [List.getElem?_set_self hl] at q
        cases q
        exact h m rfl
      · rw [List.getElem?_eq_none (by simpa using hl)] at q; cases q
    · rw [List.getElem?_eq_none (by simpa using hi)] at e; cases e
  · rw [List.getElem?_set_ne hj] at e q
    exact ap j t e m q
theorem KRs.put {i : Nat} {s : Slot} {v : V} : ∀ {A : List Addr} {rs : List R} {vs : List V}, (s.mut.isSome = true → ∃ a ∈ A, v = .ref a) → (∀ r ∈ rs, ∀ j, r ≠ .sl j) → KRs K Hs S σ H F A rs vs → KRs K Hs (S.set i s) (σ.set i (some v)) H F A rs vs
  | _, _, _, _, _, .nil => .nil
  | _, _, _, h, n, .val r t => .val r (KRs.put h (fun r hr => n r (List.mem_cons_of_mem _ hr)) t)
  | _, _, _, h, n, .sl r t => (n _ List.mem_cons_self _ rfl).elim
  | A, _, _, h, n, .fr (a := a) h1 h2 h3 h4 h5 h6 t => .fr h1 h2 h3 h4 (apart_set (fun m z => by
      obtain ⟨b, hb, e⟩ := h m
      rw [e] at z
      cases z
      exact h6 hb) h5) h6 (KRs.put (fun m => by
      obtain ⟨b, hb, e⟩ := h m
      exact ⟨b, List.mem_cons_of_mem _ hb, e⟩) (fun r hr => n r (List.mem_cons_of_mem _ hr)) t)
theorem setAll_nosl : ∀ {is : List Nat} {rs : List R} {S S' : Env}, setAll is rs S = some S' → ∀ r ∈ rs, ∀ j, r ≠ .sl j
  | [], [], _, _, _, r, hr, _ => absurd hr (by simp)
  | [], _ :: _, _, _, e, _, _, _ => by cases e
  | _ :: _, [], _, _, e, _, _, _ => by cases e
  | i :: is, r0 :: rs, S, S', e, r, hr, j => by
    unfold setAll at e
    split at e
    · cases e
    · rename_i hn
      simp only [Option.bind_eq_some_iff] at e
      obtain ⟨S1, h1, h2⟩ := e
      rcases List.mem_cons.mp hr with q | q
      · subst q
        intro z
        exact hn j z
      · exact setAll_nosl h2 r q j
theorem setAll_ok : ∀ {is : List Nat} {rs : List R} {vs : List V} {A : List Addr} {S S' : Env} {σ : St}, Rep K F B Hs S σ H → KRs K Hs S σ H F A rs vs → setAll is rs S = some S' → Rep K F B Hs S' (setV is vs σ) H
  | [], [], _, _, _, _, _, rep, .nil, e => by cases e; exact rep
  | [], _ :: _, _, _, _, _, _, _, _, e => by cases e
  | _ :: _, [], _, _, _, _, _, _, _, e => by cases e
  | i :: is, r :: rs, vs, A, S, S', σ, rep, k, e => by
    have ns := setAll_nosl e
    unfold setAll at e
    split at e
    · cases e
    · simp only [Option.bind_eq_some_iff] at e
      obtain ⟨S1, h1, h2⟩ := e
      have nt : ∀ r ∈ rs, ∀ j, r ≠ .sl j := fun r hr => ns r (List.mem_cons_of_mem _ hr)
      cases k with
      | val rv t =>
        rcases setR_some h1 with ⟨d, q1, q2⟩ | ⟨d, q1, q2⟩
        · cases q1
          have rep1 := setR_ok (r := .val _) rep rv h1
          subst q2
          exact setAll_ok (is := is) (rs := rs) rep1 (t.put (fun m => by cases m) nt) h2
        · cases q1
      | sl z t => exact (ns _ List.mem_cons_self _ rfl).elim
      | @fr _ d a o _ vs' z1 z2 z3 z4 z5 z6 t =>
        rcases setR_some h1 with ⟨d', q1, q2⟩ | ⟨d', q1, q2⟩
        · cases q1
        · cases q1
          have rep1 := setR_ok (r := .fr _) (v := .ref a) rep ⟨a, o, rfl, z1, z2, z3, z4, z5⟩ h1
          subst q2
          exact setAll_ok (is := is) (rs := rs) rep1 (t.put (fun m => ⟨a, List.mem_cons_self, rfl⟩) nt) h2
theorem KRs.length : ∀ {A : List Addr} {rs : List R} {vs : List V}, KRs K Hs S σ H F A rs vs → rs.length = vs.length
  | _, _, _, .nil => rfl
  | _, _, _, .val r t => by rw [List.length_cons, List.length_cons, t.length]
  | _, _, _, .sl r t => by rw [List.length_cons, List.length_cons, t.length]
  | _, _, _, .fr _ _ _ _ _ _ t => by rw [List.length_cons, List.length_cons, t.length]
theorem setAll_len : ∀ {is : List Nat} {rs : List R} {S S' : Env}, setAll is rs S = some S' → is.length = rs.length
  | [], [], _, _, _ => rfl
  | [], _ :: _, _, _, e => by cases e
  | _ :: _, [], _, _, e => by cases e
  | i :: is, r :: rs, S, S', e => by
    unfold setAll at e
    split at e
    · cases e
    · simp only [Option.bind_eq_some_iff] at e
      obtain ⟨S1, h1, h2⟩ := e
      rw [List.length_cons, List.length_cons, setAll_len h2]
end
def sPar (is : List Nat) (f : Srl) : Sg := fun C S => (f C S).bindS fun rs S1 => match setAll is rs S1 with
  | some S2 => .nx S2
  | none => .bad
section
variable {X : Cx} {W : WX} {C : Cc}
theorem par_ok {is : List Nat} {f : Srl} {F : Hp} {B : List V} {Hs : Hp} {S : Env} {σ : St} {H : Hp} {E : Ends} (rep : Rep X.K F B Hs S σ H) (h : FinS X.K X.mg W F B Hs E (sPar is f C S)) (Q1 : List V → Hp → Prop)
    (next : ∀ vs H1, is.length = vs.length → (∃ Hs1 S2, Rep X.K F B Hs1 S2 (setV is vs σ) H1 ∧ ∀ σ' H' Hs', Same Hs1 Hs' → Rep X.K F B Hs' S2 σ' H' → E.nx σ' H') → Q1 vs H1) : Kof X W C f σ H Q1 := by
  refine ⟨F, B, Hs, S, rep, ?_⟩
  unfold sPar at h
  cases e : f C S with
  | bad => rw [e] at h; exact h
  | ex c ns ds S1 => rw [e] at h; exact fun cls d H1 Hs1 s1 rep1 xr => h cls d σ H1 Hs1 s1 rep1 xr
  | ok rs S1 =>
    rw [e] at h
    intro H1 Hs1 s1 rep1 vs k
    have h' : FinS X.K X.mg W F B Hs E (match setAll is rs S1 with
      | some S2 => .nx S2
      | none => .bad) := h
    cases e1 : setAll is rs S1 with
    | none => rw [e1] at h'; exact h'.elim
    | some S2 =>
      rw [e1] at h'
      exact next vs H1 ((setAll_len e1).trans k.length) ⟨Hs1, S2, setAll_ok rep1 k e1, fun σ' H' Hs' s' rep' => h' σ' H' Hs' (s1.trans s') rep'⟩
theorem b_par2 {i j : Nat} {x y : Str} {a b : Expr} {f : Srl} {px py pt pos : Pos} {kt k2 pt2} (hc : X.calm = true) (hN : X.N.Nodup) (hi : X.N[i]? = some x) (hj : X.N[j]? = some y) (hij : i ≠ j)
    (hx : X.env.scope.names.lookup x = some .local) (hy : X.env.scope.names.lookup y = some .local) (ha : PA X [a, b] (Kof X W C f))
    (hw : swappedStores [.Tuple [.Name x px, .Name y py] kt pt] (.Tuple [a, b] k2 pt2) X.env = pure (some [x, y]))
    (hs : swapsWithSole [.Tuple [.Name x px, .Name y py] kt pt] (.Tuple [a, b] k2 pt2) pos.line X.env = pure false) :
    PS X (.Assign [.Tuple [.Name x px, .Name y py] kt pt] (.Tuple [a, b] k2 pt2) pos) (Sof X W C (sPar [i, j] f)) := by
  refine PS.wk (ps_par hc hN hi hj hij hx hy ha hw hs) fun σ H E ⟨F, B, Hs, S, rep, fin⟩ => ?_
  refine par_ok rep fin _ fun vs H1 hl ⟨Hs1, S2, rep2, nx⟩ => ?_
  match vs, hl with
  | [v, w], _ => exact ⟨v, w, rfl, nx _ _ Hs1 (.refl _) rep2⟩
theorem b_par3 {i j l : Nat} {x y z : Str} {a b c : Expr} {f : Srl} {px py pz pt pos : Pos} {kt k2 pt2} (hc : X.calm = true) (hN : X.N.Nodup) (hi : X.N[i]? = some x) (hj : X.N[j]? = some y) (hl : X.N[l]? = some z) (hij : i ≠ j) (hil : i ≠ l) (hjl : j ≠ l)
    (hx : X.env.scope.names.lookup x = some .local) (hy : X.env.scope.names.lookup y = some .local) (hz : X.env.scope.names.lookup z = some .local) (ha : PA X [a, b, c] (Kof X W C f))
    (hw : swappedStores [.Tuple [.Name x px, .Name y py, .Name z pz] kt pt] (.Tuple [a, b, c] k2 pt2) X.env = pure (some [x, y, z]))
    (hs : swapsWithSole [.Tuple [.Name x px, .Name y py, .Name z pz] kt pt] (.Tuple [a, b, c] k2 pt2) pos.line X.env = pure false) :
    PS X (.Assign [.Tuple [.Name x px, .Name y py, .Name z pz] kt pt] (.Tuple [a, b, c] k2 pt2) pos) (Sof X W C (sPar [i, j, l] f)) := by
  refine PS.wk (ps_par3 hc hN hi hj hl hij hil hjl hx hy hz ha hw hs) fun σ H E ⟨F, B, Hs, S, rep, fin⟩ => ?_
  refine par_ok rep fin _ fun vs H1 hl ⟨Hs1, S2, rep2, nx⟩ => ?_
  match vs, hl with
  | [v, w, u], _ => exact ⟨v, w, u, rfl, nx _ _ Hs1 (.refl _) rep2⟩
/-- by way of a tuple -/
def gNames : List Nat → TGs
  | [] => gNil
  | i :: is => gCons (gName i) (gNames is)
theorem gNames_ok : ∀ {is : List Nat} {vs : List V} {σ : St} {H : Hp} {Q : St → Hp → Prop}, is.length = vs.length → Q (setV is vs σ) H → gNames is vs σ H Q
  | [], [], _, _, _, _, q => ⟨rfl, q⟩
  | i :: is, v :: vs, σ, H, Q, hl, q => ⟨v, vs, rfl, gNames_ok (is := is) (vs := vs) (σ := σ.set i (some v)) (by simpa using hl) q⟩
theorem b_parT {is : List Nat} {tg : Expr} {es : List Expr} {f : Srl} {k2 : Nat} {pt2 pos : Pos} (hg : PG X tg (gTup X.K is.length (gNames is))) (ha : PA X es (Kof X W C f)) (hsz : is.length ≤ 1000)
    (hs : swapsWithSole [tg] (.Tuple es k2 pt2) pos.line X.env = pure false) (hw : swappedStores [tg] (.Tuple es k2 pt2) X.env = pure none) (h1 : (assignEach [tg] X.env).map (·.2) = [assign tg X.env]) :
    PS X (.Assign [tg] (.Tuple es k2 pt2) pos) (Sof X W C (sPar is f)) := by
  refine PS.wk (ps_asg (pe_tup ha) hg hs hw h1) fun σ H E ⟨F, B, Hs, S, rep, fin⟩ => ?_
  refine par_ok rep fin _ fun vs H1 hl ⟨Hs1, S2, rep2, nx⟩ => ?_
  refine ⟨Nat.le_trans (by rw [← hl]; exact hsz) (Nat.le_of_lt (small1000 (Nat.le_refl _))), fun p hp => ?_⟩
  refine ⟨p, vs, rfl, SqT.of upd_same, hl.symm, gNames_ok hl ?_⟩
  exact nx _ _ Hs1 (.refl _) (rep2.new hp)
end
end Kn

/-! Kn11 -/
/-! Kn part 11: calls of own defs. -/
namespace Kn
open PySem PySem.Spec PyProof.Rows L2

def argSlot (S : Env) : R → Option Slot
  | .val d => some (.val d)
  | .fr d => some (.bor d)
  | .sl i => match S[i]? with
    | some (.own d) => some (.bor d)
    | some (.bor d) => some (.bor d)
    | some (.val d) => some (.val d)
    | _ => none
def argSlots (S : Env) : List R → Option (List Slot)
  | [] => some []
  | r :: rs => (argSlot S r).bind fun s => (argSlots S rs).map fun ss => s :: ss
def isSl (i : Nat) : R → Bool
  | .sl j => i == j
  | _ => false
def ndSl : List R → Bool
  | [] => true
  | .sl i :: rs => !(rs.any (isSl i)) && ndSl rs
  | _ :: rs => ndSl rs
def okBack : List Slot → List Slot → Bool
  | [], [] => true
  | .bor _ :: as, .bor _ :: ss => okBack as ss
  | .val _ :: as, _ :: ss => okBack as ss
  | _, _ => false
def newAt : List R → List Slot → Nat → Option D
  | .sl k :: rs, .bor d :: ss, i => if k = i then some d else newAt rs ss i
  | _ :: rs, _ :: ss, i => newAt rs ss i
  | _, _, _ => none
def putBack (rs : List R) (ss : List Slot) (S : Env) : Env := S.mapIdx fun i s => match newAt rs ss i with
  | some d => (match s with
    | .own _ => .own d
    | .bor _ => .bor d
    | s => s)
  | none => s
def sCall (i : Nat) (f : Srl) : Sm := fun C S => (f C S).bind fun rs S1 => match argSlots S1 rs with
  | none => .bad
  | some as => if ndSl rs = true then (match C.call i as with
    | .ok r ss => if okBack as ss = true then (match r with
      | .sl _ => .bad
      | r => .ok r (putBack rs ss S1)) else .bad
    | .ex c ns ds ss => if okBack as ss = true then .ex c ns ds (putBack rs ss S1) else .bad
    | .bad => .bad) else .bad
/-- what a def promises: run, its outcome on slots -/
def spK (K : PySem.W.Frag) (mg : Str → Option Value) (n : Nat) (run : List Slot → O R) : Sp := fun vs H Q E => vs.length = n ∧ ∃ F Hs args, args.length = n ∧ Rep K F vs Hs args (vs.map some) H ∧
  Fin K mg (fun cls d _ H' => E cls d H') F vs Hs (vs.map some) H Q (run args)

section
variable {K : PySem.W.Frag} {F : Hp} {B : List V} {Hs Hs' : Hp} {S S' : Env} {σ : St} {H H' : Hp}
theorem KRs.at : ∀ {A : List Addr} {rs : List R} {vs : List V} {j : Nat} {r : R}, KRs K Hs S σ H F A rs vs → rs[j]? = some r → ∃ v, vs[j]? = some v ∧ match r with
    | .val d => RV K Hs d v
    | .sl i => σ[i]? = some (some v)
    | .fr d => ∃ a o, v = .ref a ∧ Hs a = none ∧ F a = none ∧ H a = some o ∧ NodeR K Hs d o ∧ Apart S σ a ∧ a ∉ A
  | _, _, _, _, _, .nil, e => by cases e
  | _, _, _, 0, _, .val r t, e => by cases e; exact ⟨_, rfl, r⟩
  | _, _, _, 0, _, .sl r t, e => by cases e; exact ⟨_, rfl, r⟩
  | _, _, _, 0, _, .fr h1 h2 h3 h4 h5 h6 t, e => by cases e; exact ⟨_, rfl, _, _, rfl, h1, h2, h3, h4, h5, h6⟩
  | _, _, _, j + 1, r, .val _ t, e => KRs.at (j := j) (r := r) t e
  | _, _, _, j + 1, r, .sl _ t, e => KRs.at (j := j) (r := r) t e
  | _, _, _, j + 1, r, .fr _ _ _ _ _ _ t, e => by
    obtain ⟨v, h1, h2⟩ := KRs.at (j := j) (r := r) t e
    refine ⟨v, h1, ?_⟩
    cases r with
    | val d => exact h2
    | sl i => exact h2
    | fr d =>
      obtain ⟨a, o, z1, z2, z3, z4, z5, z6, z7⟩ := h2
      exact ⟨a, o, z1, z2, z3, z4, z5, z6, fun m => z7 (List.mem_cons_of_mem _ m)⟩
theorem KRs.ne : ∀ {A : List Addr} {rs : List R} {vs : List V} {j k : Nat} {d e : D} {a : Addr}, KRs K Hs S σ H F A rs vs → rs[j]? = some (.fr d) → rs[k]? = some (.fr e) → vs[j]? = some (.ref a) → vs[k]? = some (.ref a) → j = k
  | _, _, _, 0, 0, _, _, _, _, _, _, _, _ => rfl
  | _, _, _, 0, k + 1, _, _, _, .fr _ _ _ _ _ _ t, e1, e2, e3, e4 => by
    cases e3
    obtain ⟨v, h1, a', o, z1, z2, z3, z4, z5, z6, z7⟩ := KRs.at (j := k) t e2
    have e4' : _ = some (V.ref _) := e4
    rw [List.getElem?_cons_succ, h1] at e4'
    cases e4'
    cases z1
    exact (z7 List.mem_cons_self).elim
  | _, _, _, 0, k + 1, _, _, _, .val _ t, e1, _, _, _ => by cases e1
  | _, _, _, 0, k + 1, _, _, _, .sl _ t, e1, _, _, _ => by cases e1
  | _, _, _, j + 1, 0, _, _, _, .fr _ _ _ _ _ _ t, e1, e2, e3, e4 => by
    cases e4
    obtain ⟨v, h1, a', o, z1, z2, z3, z4, z5, z6, z7⟩ := KRs.at (j := j) t e1
    rw [List.getElem?_cons_succ, h1] at e3
    cases e3
    cases z1
    exact (z7 List.mem_cons_self).elim
  | _, _, _, j + 1, 0, _, _, _, .val _ t, _, e1, _, _ => by cases e1
  | _, _, _, j + 1, 0, _, _, _, .sl _ t, _, e1, _, _ => by cases e1
  | _, _, _, j + 1, k + 1, _, _, _, .fr _ _ _ _ _ _ t, e1, e2, e3, e4 => congrArg (· + 1) (KRs.ne (j := j) (k := k) t e1 e2 e3 e4)
  | _, _, _, j + 1, k + 1, _, _, _, .val _ t, e1, e2, e3, e4 => congrArg (· + 1) (KRs.ne (j := j) (k := k) t e1 e2 e3 e4)
  | _, _, _, j + 1, k + 1, _, _, _, .sl _ t, e1, e2, e3, e4 => congrArg (· + 1) (KRs.ne (j := j) (k := k) t e1 e2 e3 e4)
  | _, _, _, _, _, _, _, _, .nil, e1, _, _, _ => by cases e1
theorem argSlots_at : ∀ {rs : List R} {as : List Slot} {j : Nat} {r : R}, argSlots S rs = some as → rs[j]? = some r → ∃ s, as[j]? = some s ∧ argSlot S r = some s
  | [], _, _, _, _, e => by cases e
  | r :: rs, as, j, r', h, e => by
    unfold argSlots at h
    simp only [Option.bind_eq_some_iff, Option.map_eq_some_iff] at h
    obtain ⟨s, h1, ss, h2, rfl⟩ := h
    cases j with
    | zero => cases e; exact ⟨s, rfl, h1⟩
    | succ j => exact argSlots_at (j := j) h2 e
theorem argSlots_len : ∀ {rs : List R} {as : List Slot}, argSlots S rs = some as → as.length = rs.length
  | [], _, h => by cases h; rfl
  | r :: rs, as, h => by
    unfold argSlots at h
    simp only [Option.bind_eq_some_iff, Option.map_eq_some_iff] at h
    obtain ⟨s, h1, ss, h2, rfl⟩ := h
    rw [List.length_cons, List.length_cons, argSlots_len h2]
theorem ndSl_at : ∀ {rs : List R} {j k i : Nat}, ndSl rs = true → rs[j]? = some (.sl i) → rs[k]? = some (.sl i) → j = k
  | [], _, _, _, _, e, _ => by cases e
  | r :: rs, j, k, i, h, e1, e2 => by
    have tl : ndSl rs = true := by
      cases r with
      | sl z => unfold ndSl at h; rw [Bool.and_eq_true] at h; exact h.2
      | val d => exact h
      | fr d => exact h
    have hd : ∀ {m : Nat}, r = .sl i → rs[m]? = some (.sl i) → False := fun {m} e q => by
      subst e
      unfold ndSl at h
      rw [Bool.and_eq_true, Bool.not_eq_true'] at h
      have := List.any_eq_false.mp h.1 _ (List.mem_of_getElem? q)
      exact this (by unfold isSl; exact beq_self_eq_true i)
    cases j with
    | zero =>
      cases k with
      | zero => rfl
      | succ k => exact (hd (by cases e1; rfl) (m := k) e2).elim
    | succ j =>
      cases k with
      | zero => exact (hd (by cases e2; rfl) (m := j) e1).elim
      | succ k => exact congrArg (· + 1) (ndSl_at tl e1 e2)
theorem okBack_at : ∀ {as ss : List Slot} {j : Nat} {d : D}, okBack as ss = true → as[j]? = some (.bor d) → ∃ d', ss[j]? = some (.bor d')
  | [], _, _, _, _, e => by cases e
  | .bor x :: as, .bor y :: ss, 0, _, h, e => ⟨y, rfl⟩
  | .bor x :: as, .bor y :: ss, j + 1, _, h, e => okBack_at (j := j) (as := as) (ss := ss) h e
  | .val x :: as, _ :: ss, 0, _, h, e => by cases e
  | .val x :: as, _ :: ss, j + 1, _, h, e => okBack_at (j := j) (as := as) (ss := ss) (by unfold okBack at h; exact h) e
  | .bor x :: as, .val y :: ss, _, _, h, e => by simp [okBack] at h
  | .bor x :: as, .own y :: ss, _, _, h, e => by simp [okBack] at h
  | .bor x :: as, .non :: ss, _, _, h, e => by simp [okBack] at h
  | .bor x :: as, [], _, _, h, e => by simp [okBack] at h
  | .val x :: as, [], _, _, h, e => by simp [okBack] at h
  | .own x :: as, ss, _, _, h, e => by simp [okBack] at h
  | .non :: as, ss, _, _, h, e => by simp [okBack] at h
theorem newAt_some : ∀ {rs : List R} {ss : List Slot} {i : Nat} {d : D}, newAt rs ss i = some d → ∃ j : Nat, rs[j]? = some (R.sl i) ∧ ss[j]? = some (Slot.bor d)
  | [], _, _, _, e => by simp [newAt] at e
  | _ :: _, [], _, _, e => by simp [newAt] at e
  | r :: rs, s :: ss, i, d, e => by
    have tl : newAt rs ss i = some d → ∃ j : Nat, (r :: rs)[j]? = some (R.sl i) ∧ (s :: ss)[j]? = some (Slot.bor d) := fun e => by
      obtain ⟨j, h1, h2⟩ := newAt_some e
      exact ⟨j + 1, h1, h2⟩
    unfold newAt at e
    split at e
    · rename_i h1 h2
      cases h1
      cases h2
      split at e
      · rename_i hk
        cases e
        subst hk
        exact ⟨0, rfl, rfl⟩
      · exact tl e
    · rename_i h1 h2
      cases h1
      cases h2
      exact tl e
    · cases e
theorem newAt_none : ∀ {rs : List R} {ss : List Slot} {i j : Nat} {d : D}, newAt rs ss i = none → rs[j]? = some (.sl i) → ss[j]? = some (.bor d) → False
  | [], _, _, _, _, _, e, _ => by cases e
  | _ :: _, [], _, _, _, _, _, e => by cases e
  | r :: rs, s :: ss, i, j, d, h, e1, e2 => by
    unfold newAt at h
    split at h
    · rename_i h1 h2
      cases h1
      cases h2
      split at h
      · cases h
      · rename_i hk
        cases j with
        | zero => cases e1; exact hk rfl
        | succ j => exact newAt_none (j := j) h e1 e2
    · rename_i hn h1 h2
      cases h1
      cases h2
      cases j with
      | zero => cases e1; cases e2; exact hn _ _ rfl rfl
      | succ j => exact newAt_none (j := j) h e1 e2
    · rename_i h1 h2
      exact h2 _ _ _ _ rfl rfl
theorem argSlot_sl {i : Nat} {s : Slot} (h : argSlot S (.sl i) = some s) : (∃ d t, S[i]? = some t ∧ t.mut = some d ∧ s = .bor d) ∨ ∃ d, S[i]? = some (.val d) ∧ s = .val d := by
  unfold argSlot at h
  simp only at h
  cases q : S[i]? with
  | none => rw [q] at h; cases h
  | some t =>
    rw [q] at h
    cases t with
    | own d => cases h; exact .inl ⟨d, _, rfl, rfl, rfl⟩
    | bor d => cases h; exact .inl ⟨d, _, rfl, rfl, rfl⟩
    | val d => cases h; exact .inr ⟨d, rfl, rfl⟩
    | non => cases h
/-- the callee's frame at its entry; what it leaves -/
theorem back_ok {rs : List R} {as : List Slot} {vs : List V} (rep : Rep K F B Hs S σ H) (k : KRs K Hs S σ H F [] rs vs) (ha : argSlots S rs = some as) (nd : ndSl rs = true) :
    ∃ F', Rep K F' vs Hs as (vs.map some) H ∧ ∀ ss Hs' H', Same Hs Hs' → Rep K F' vs Hs' ss (vs.map some) H' → okBack as ss = true → Rep K F B Hs' (putBack rs ss S) σ H' ∧ (∀ a, F' a = none → F a = none) ∧
      ∀ d v, RR K F' Hs' ss (vs.map some) H' (.fr d) v → RR K F Hs' (putBack rs ss S) σ H' (.fr d) v := by
  have hlen := argSlots_len ha
  have hvl := k.length
  -- a lent place
  have lent : ∀ (j : Nat) (d : D), as[j]? = some (.bor d) → ∃ a o, vs[j]? = some (.ref a) ∧ Hs a = none ∧ F a = none ∧ H a = some o ∧ NodeR K Hs d o ∧
      ((∃ i s, rs[j]? = some (.sl i) ∧ S[i]? = some s ∧ s.mut.isSome = true ∧ σ[i]? = some (some (.ref a))) ∨ ∃ d', rs[j]? = some (.fr d') ∧ Apart S σ a) := fun j d e => by
    have hj : j < rs.length := by rw [← hlen]; exact (List.getElem?_eq_some_iff.mp e).1
    have er : rs[j]? = some rs[j] := List.getElem?_eq_getElem hj
    generalize rs[j] = r at er
    obtain ⟨s, h1, h2⟩ := argSlots_at ha er
    rw [e] at h1
    cases h1
    obtain ⟨v, h3, h4⟩ := k.at er
    cases r with
    | val d' => cases h2
    | fr d' =>
      cases h2
      obtain ⟨a, o, rfl, z1, z2, z3, z4, z5, _⟩ := h4
      exact ⟨a, o, h3, z1, z2, z3, z4, .inr ⟨d, er, z5⟩⟩
    | sl i =>
      have h4 : σ[i]? = some (some v) := h4
      rcases argSlot_sl h2 with ⟨d', t, hd, hm, q⟩ | ⟨d', hd, q⟩
      · cases q
        obtain ⟨a, o, z1, z2, z3, z4, z5⟩ := rep.own i _ d hd hm
        rw [h4] at z1
        cases z1
        exact ⟨a, o, h3, z2, z3, z4, z5, .inl ⟨i, _, er, hd, by rw [hm]; rfl, h4⟩⟩
      · cases q
  let P : Addr → Prop := fun a => (∃ (j : Nat) (d : D), as[j]? = some (Slot.bor d) ∧ vs[j]? = some (V.ref a)) ∨ Hs a ≠ none
  let F' : Hp := fun a => @ite _ (P a) (Classical.propDecidable _) none (H a)
  have Fp : ∀ {a}, P a → F' a = none := fun {a} p => if_pos p
  have Fn : ∀ {a}, ¬ P a → F' a = H a := fun {a} p => if_neg p
  have FF : ∀ {a u}, F a = some u → F' a = some u := fun {a u} e => by
    rw [Fn]
    · exact rep.frm _ _ e
    · rintro (⟨j, d, h1, h2⟩ | h1)
      · obtain ⟨a', o, z1, z2, z3, _⟩ := lent j d h1
        rw [h2] at z1
        cases z1
        rw [e] at z3; cases z3
      · cases q : Hs a with
        | none => exact h1 q
        | some u' =>
          have := rep.dis _ _ q
          rw [e] at this; cases this
  refine ⟨F', ⟨rep.sub, fun a o e => ?_, fun a o e => Fp (.inr (by rw [e]; exact fun z => nomatch z)), by rw [List.length_map, hlen, hvl]; exact Nat.le_refl _, fun j d e => ?_, fun j s d e m => ?_, fun j d e => ?_, fun j l s t a e1 e2 m1 m2 z1 z2 => ?_⟩, fun ss Hs' H' s' rep' ok => ?_⟩
  · by_cases p : P a
    · rw [Fp p] at e; cases e
    · rw [Fn p] at e; exact e
  · have hj : j < rs.length := by rw [← hlen]; exact (List.getElem?_eq_some_iff.mp e).1
    have er : rs[j]? = some rs[j] := List.getElem?_eq_getElem hj
    generalize rs[j] = r at er
    obtain ⟨s, h1, h2⟩ := argSlots_at ha er
    rw [e] at h1
    cases h1
    obtain ⟨v, h3, h4⟩ := k.at er
    refine ⟨v, by rw [List.getElem?_map, h3]; rfl, ?_⟩
    cases r with
    | val d' => cases h2; exact h4
    | fr d' => cases h2
    | sl i =>
      have h4 : σ[i]? = some (some v) := h4
      rcases argSlot_sl h2 with ⟨d', t, hd, hm, q⟩ | ⟨d', hd, q⟩
      · cases q
      · cases q
        obtain ⟨v', y1, y2⟩ := rep.val i d hd
        rw [h4] at y1
        cases y1
        exact y2
  · have e' : as[j]? = some (.bor d) := by
      have hj : j < rs.length := by rw [← hlen]; exact (List.getElem?_eq_some_iff.mp e).1
      have er : rs[j]? = some rs[j] := List.getElem?_eq_getElem hj
      obtain ⟨s', h1, h2⟩ := argSlots_at ha er
      rw [e] at h1
      cases h1
      cases s with
      | bor z => cases m; exact e
      | val z => cases m
      | non => cases m
      | own z =>
        exfalso
        generalize rs[j] = r at h2
        cases r with
        | val _ => cases h2
        | fr _ => cases h2
        | sl i =>
          rcases argSlot_sl h2 with ⟨d', t, hd, hm, q⟩ | ⟨d', hd, q⟩ <;> cases q
    obtain ⟨a, o, z1, z2, z3, z4, z5, _⟩ := lent j d e'
    exact ⟨a, o, by rw [List.getElem?_map, z1]; rfl, z2, Fp (.inl ⟨j, d, e', z1⟩), z4, z5⟩
  · obtain ⟨a, o, z1, _⟩ := lent j d e
    exact ⟨_, z1, by rw [List.getElem?_map, z1]; rfl⟩
  · have up : ∀ {j : Nat} {s : Slot}, as[j]? = some s → s.mut.isSome = true → ∃ d, as[j]? = some (.bor d) := fun {j s} e m => by
      have hj : j < rs.length := by rw [← hlen]; exact (List.getElem?_eq_some_iff.mp e).1
      have er : rs[j]? = some rs[j] := List.getElem?_eq_getElem hj
      obtain ⟨s', h1, h2⟩ := argSlots_at ha er
      rw [e] at h1
      cases h1
      cases s with
      | bor z => exact ⟨z, e⟩
      | val z => cases m
      | non => cases m
      | own z =>
        exfalso
        generalize rs[j] = r at h2
        cases r with
        | val _ => cases h2
        | fr _ => cases h2
        | sl i =>
          rcases argSlot_sl h2 with ⟨d', t, hd, hm, q⟩ | ⟨d', hd, q⟩ <;> cases q
    obtain ⟨d1, f1⟩ := up e1 m1
    obtain ⟨d2, f2⟩ := up e2 m2
    obtain ⟨a1, o1, y1, _, _, _, _, c1⟩ := lent j d1 f1
    obtain ⟨a2, o2, y2, _, _, _, _, c2⟩ := lent l d2 f2
    rw [List.getElem?_map, y1] at z1
    rw [List.getElem?_map, y2] at z2
    cases z1
    cases z2
    rcases c1 with ⟨i1, s1, r1, q1, w1, x1⟩ | ⟨g1, r1, p1⟩
    · rcases c2 with ⟨i2, s2, r2, q2, w2, x2⟩ | ⟨g2, r2, p2⟩
      · have := rep.inj i1 i2 s1 s2 a q1 q2 w1 w2 x1 x2
        subst this
        exact ndSl_at nd r1 r2
      · exact (p2 i1 s1 q1 w1 x1).elim
    · rcases c2 with ⟨i2, s2, r2, q2, w2, x2⟩ | ⟨g2, r2, p2⟩
      · exact (p1 i2 s2 q2 w2 x2).elim
      · exact k.ne r1 r2 y1 y2
  · have FnF : ∀ a, F' a = none → F a = none := fun a e => by
      cases q : F a with
      | none => rfl
      | some u => rw [FF q] at e; cases e
    -- a slot behind the call
    have shape : ∀ {i : Nat} {t : Slot}, (putBack rs ss S)[i]? = some t → ∃ s, S[i]? = some s ∧ t = (match newAt rs ss i with
      | some d => (match s with
        | .own _ => .own d
        | .bor _ => .bor d
        | s => s)
      | none => s) := fun {i t} e => by
      unfold putBack at e
      rw [List.getElem?_mapIdx, Option.map_eq_some_iff] at e
      obtain ⟨s, h1, h2⟩ := e
      exact ⟨s, h1, h2.symm⟩
    have muts : ∀ {i : Nat} {t : Slot}, (putBack rs ss S)[i]? = some t → t.mut.isSome = true → ∃ s, S[i]? = some s ∧ s.mut.isSome = true := fun {i t} e m => by
      obtain ⟨s, h1, h2⟩ := shape e
      refine ⟨s, h1, ?_⟩
      subst h2
      cases q : newAt rs ss i with
      | none => rw [q] at m; exact m
      | some d =>
        rw [q] at m
        cases s with
        | own _ => rfl
        | bor _ => rfl
        | val _ => exact m
        | non => exact m
    -- an own thing behind the call
    have own' : ∀ {i : Nat} {t : Slot} {d : D}, (putBack rs ss S)[i]? = some t → t.mut = some d → ∃ a o, σ[i]? = some (some (.ref a)) ∧ Hs' a = none ∧ F a = none ∧ H' a = some o ∧ NodeR K Hs' d o ∧ ((∃ (j : Nat) (s : Slot), vs[j]? = some (V.ref a) ∧ ss[j]? = some s ∧ s.mut.isSome = true) ∨ F' a ≠ none) := fun {i t d} e m => by
      obtain ⟨s, h1, h2⟩ := shape e
      obtain ⟨s0, g1, g2⟩ := muts e (by rw [m]; rfl)
      rw [h1] at g1
      cases g1
      cases hm : s.mut with
      | none => rw [hm] at g2; cases g2
      | some d0 =>
        obtain ⟨a, o, z1, z2, z3, z4, z5⟩ := rep.own i s d0 h1 hm
        cases q : newAt rs ss i with
        | some dn =>
          rw [q] at h2
          have ed : d = dn := by
            subst h2
            cases s with
            | own _ => cases m; rfl
            | bor _ => cases m; rfl
            | val _ => cases hm
            | non => cases hm
          subst ed
          obtain ⟨j, w1, w2⟩ := newAt_some q
          obtain ⟨v, w3, w4⟩ := k.at w1
          have w4 : σ[i]? = some (some v) := w4
          rw [z1] at w4
          cases w4
          obtain ⟨a', o', y1, y2, y3, y4, y5⟩ := rep'.own j _ d w2 rfl
          rw [List.getElem?_map, w3] at y1
          cases y1
          exact ⟨a, o', z1, y2, z3, y4, y5, .inl ⟨j, _, w3, w2, rfl⟩⟩
        | none =>
          rw [q] at h2
          have h2 : t = s := h2
          subst h2
          rw [hm] at m
          cases m
          have np : ¬ P a := by
            rintro (⟨j, dj, w1, w2⟩ | w1)
            · obtain ⟨a', o', y1, _, _, _, _, y2⟩ := lent j dj w1
              rw [w2] at y1
              cases y1
              obtain ⟨dj', ow⟩ := okBack_at ok w1
              rcases y2 with ⟨i2, s2, r2, q2, x2, x3⟩ | ⟨d2, r2, p2⟩
              · have := rep.inj i i2 t s2 a h1 q2 (by rw [hm]; rfl) x2 z1 x3
                subst this
                exact newAt_none q r2 ow
              · exact p2 i t h1 (by rw [hm]; rfl) z1
            · exact w1 z2
          have fa : F' a = some o := by rw [Fn np]; exact z4
          refine ⟨a, o, z1, ?_, z3, rep'.frm _ _ fa, z5.mono s', .inr (by rw [fa]; exact fun z => nomatch z)⟩
          cases q2 : Hs' a with
          | none => rfl
          | some u =>
            have := rep'.dis _ _ q2
            rw [fa] at this; cases this
    have len' : (putBack rs ss S).length = S.length := by unfold putBack; rw [List.length_mapIdx]
    refine ⟨⟨rep'.sub, fun a o e => rep'.frm _ _ (FF e), fun a o e => FnF a (rep'.dis _ _ e), by rw [len']; exact rep.len, fun i d e => ?_, fun i t d e m => ?_, fun i d e => ?_, fun i l s t a e1 e2 m1 m2 z1 z2 => ?_⟩, FnF, fun d v rr => ?_⟩
    · obtain ⟨s, h1, h2⟩ := shape e
      have : s = .val d := by
        cases q : newAt rs ss i with
        | none => rw [q] at h2; exact h2.symm
        | some d0 =>
          rw [q] at h2
          cases s with
          | own _ => cases h2
          | bor _ => cases h2
          | val _ => exact h2.symm
          | non => exact h2.symm
      subst this
      obtain ⟨v, y1, y2⟩ := rep.val i d h1
      exact ⟨v, y1, y2.mono s'⟩
    · obtain ⟨a, o, h1, h2, h3, h4, h5, _⟩ := own' e m
      exact ⟨a, o, h1, h2, h3, h4, h5⟩
    · obtain ⟨s, h1, h2⟩ := shape e
      have : ∃ d0, s = .bor d0 := by
        cases q : newAt rs ss i with
        | none => rw [q] at h2; exact ⟨d, h2.symm⟩
        | some d0 =>
          rw [q] at h2
          cases s with
          | own _ => cases h2
          | bor z => exact ⟨z, rfl⟩
          | val _ => cases h2
          | non => cases h2
      obtain ⟨d0, rfl⟩ := this
      exact rep.bor i d0 h1
    · obtain ⟨s', g1, g2⟩ := muts e1 m1
      obtain ⟨t', g3, g4⟩ := muts e2 m2
      exact rep.inj i l s' t' a g1 g3 g2 g4 z1 z2
    · obtain ⟨a, o, rfl, y1, y2, y3, y4, y5⟩ := rr
      refine ⟨a, o, rfl, y1, FnF a y2, y3, y4, fun i t e m q => ?_⟩
      cases hm : t.mut with
      | none => rw [hm] at m; cases m
      | some d' =>
        obtain ⟨a', o', h1, h2, h3, h4, h5, h6⟩ := own' e hm
        rw [q] at h1
        cases h1
        rcases h6 with ⟨j, s, w1, w2, w3⟩ | w
        · exact y5 j s w2 w3 (by rw [List.getElem?_map, w1]; rfl)
        · exact w y2
end
section
variable {X : Cx} {W : WX} {C : Cc}
theorem call_ok {i : Nat} {f : Srl} {n : Nat} (hn : ∀ C S rs S1, f C S = .ok rs S1 → rs.length = n) {σ : St} {H : Hp} {Q : VK} (h : Eof X W C (sCall i f) σ H Q) : tCallS (spK X.K X.mg n (C.call i)) (WE W) (Kof X W C f) σ H Q := by
  obtain ⟨F, B, Hs, S, rep, fin⟩ := h
  have fin0 := fin.to
  unfold sCall at fin0
  refine ⟨F, B, Hs, S, rep, ?_⟩
  cases e : f C S with
  | bad => rw [e] at fin0; exact fin0
  | ex c ns ds S1 => rw [e] at fin0; exact fin0
  | ok rs S1 =>
    rw [e] at fin0
    intro H1 Hs1 s1 rep1 vs k
    have hl := hn C S rs S1 e
    have fin1 : FinA X.K X.mg W F B Hs1 σ (fun r S' Hs' H' => ∀ v, RR X.K F Hs' S' σ H' r v → Q v H') (match argSlots S1 rs with
      | none => .bad
      | some as => if ndSl rs = true then (match C.call i as with
        | .ok r ss => if okBack as ss = true then (match r with
          | .sl _ => .bad
          | r => .ok r (putBack rs ss S1)) else .bad
        | .ex c ns ds ss => if okBack as ss = true then .ex c ns ds (putBack rs ss S1) else .bad
        | .bad => .bad) else .bad) := FinA.later s1 fin0
    cases e1 : argSlots S1 rs with
    | none => rw [e1] at fin1; exact fin1.elim
    | some as =>
      rw [e1] at fin1
      simp only at fin1
      by_cases nd : ndSl rs = true
      · rw [if_pos nd] at fin1
        obtain ⟨F', repc, back⟩ := back_ok rep1 k e1 nd
        refine ⟨by rw [← k.length]; exact hl, F', Hs1, as, by rw [argSlots_len e1]; exact hl, repc, ?_⟩
        cases e2 : C.call i as with
        | bad => rw [e2] at fin1; exact fin1.elim
        | ex c ns ds ss =>
          rw [e2] at fin1
          simp only at fin1
          by_cases ok : okBack as ss = true
          · rw [if_pos ok] at fin1
            intro cls d H2 Hs2 s2 rep2 xr
            obtain ⟨rep3, FnF, _⟩ := back ss Hs2 H2 s2 rep2 ok
            refine fin1 cls d H2 Hs2 s2 rep3 ⟨xr.cls, ?_⟩
            obtain ⟨dd, vs', x1, x2, x3, x4, x5, x6⟩ := xr.fld
            exact ⟨dd, vs', x1, x2, x3, x4, x5, FnF _ x6⟩
          · rw [if_neg ok] at fin1; exact fin1.elim
        | ok r ss =>
          rw [e2] at fin1
          simp only at fin1
          by_cases ok : okBack as ss = true
          · rw [if_pos ok] at fin1
            intro v H2 Hs2 s2 rep2 rr
            obtain ⟨rep3, FnF, frs⟩ := back ss Hs2 H2 s2 rep2 ok
            cases r with
            | val d => exact fin1 H2 Hs2 s2 rep3 v rr
            | fr d => exact fin1 H2 Hs2 s2 rep3 v (frs d v rr)
            | sl j => exact fin1.elim
          · rw [if_neg ok] at fin1; exact fin1.elim
      · rw [if_neg nd] at fin1; exact fin1.elim
theorem k_call {CX : CXT} {k : Nat} {f : Addr} {fd : FuncData} {ps : List Str} {x : Str} {p pos : Pos} {e : Expr} {es : List Expr} {i n : Nat} {g : Srl} (F : FnOk X.prog X.w X.K X.mg X.base CX k f fd ps (spK X.K X.mg n (C.call i))) (hr : Room k X.A) (hg : Gl X x) (hm : X.mg x = some (.ref f)) (hk : PySem.W.keepIn X.K (.ref f) = true) (hb : Binds X.K fd ps [])
    (hx : ∀ σ, PassesAt CX X σ (WE W σ)) (hn : ∀ C S rs S1, g C S = .ok rs S1 → rs.length = n) (ha : PA X (e :: es) (Kof X W C g)) (hdb : (x == ("__debug__" : Str)) = false) (he : starEach (e :: es) X.env = (false, eval e X.env) :: starEach es X.env) (hpl : (backTo pos (starEach es X.env)).any (·.1) = false) :
    PE X (.Call (.Name x p) (e :: es) [] pos) (Eof X W C (sCall i g)) :=
  PE.wk (pe_callS F hr hg hm hk hb hx ha hdb he hpl) fun _ _ _ h => call_ok hn h
end
end Kn

/-! Kn12 -/
/-! Kn part 12: from an expression's text to its reading, with the proof that it holds. -/
namespace Kn
open PySem PySem.Spec PyProof.Rows L2

inductive Gk where
  | cst (d : D)
  | fn (i n : Nat) (ms : List Nat)
  | blt
structure Gam where
  N : List Str
  sc : Scope
  tab : List (Str × Gk)
  fc : Str → Bool
def GkOk (X : Cx) (C : Cc) (k : Nat) (x : Str) : Gk → Prop
  | .cst d => ∃ u v, X.mg x = some u ∧ RelV v u ∧ ∀ Hs, RV X.K Hs d v
  | .fn i n _ => ∃ f fd ps, FnOk X.prog X.w X.K X.mg X.base (L2.CX X.prog X.w) k f fd ps (spK X.K X.mg n (C.call i)) ∧ X.mg x = some (.ref f) ∧ PySem.W.keepIn X.K (.ref f) = true ∧ Binds X.K fd ps []
  | .blt => X.mg x = none
structure Good (X : Cx) (W : WX) (C : Cc) (k : Nat) (Γ : Gam) : Prop where
  N : X.N = Γ.N
  nd : Γ.N.Nodup
  sc : X.env.scope = Γ.sc
  kind : Γ.sc.kind = .function
  calm : X.calm = true
  hu : X.A.units + 64 < cLine
  px : ∀ σ, PassesAt (L2.CX X.prog X.w) X σ (WE W σ)
  room : Room k X.A
  tab : ∀ x g, Γ.tab.lookup x = some g → GkOk X C k x g
  fc : ∀ x, Γ.fc x = true → X.fn x = true

/-! ### names -/
def ixOf (x : Str) : List Str → Option Nat
  | [] => none
  | y :: ys => if x = y then some 0 else (ixOf x ys).map (· + 1)
theorem ixOf_get {x : Str} : ∀ {N : List Str} {i : Nat}, ixOf x N = some i → N[i]? = some x
  | [], _, h => by cases h
  | y :: ys, i, h => by
    unfold ixOf at h
    split at h
    · rename_i e; cases h; rw [e]; rfl
    · simp only [Option.map_eq_some_iff] at h
      obtain ⟨j, h1, rfl⟩ := h
      have := ixOf_get h1
      simpa using this
def okN (x : Str) : Bool := !(x == ("__debug__" : Str)) && !(x == ("__classdict__" : Str))
def visK : Option NameKind → Bool
  | some .local => true
  | some .cell => true
  | some .free => true
  | _ => false
def glK : Option NameKind → Bool
  | some .globalImplicit => true
  | _ => false
def locK : Option NameKind → Bool
  | some .local => true
  | _ => false
def stoK (f : Bool) : Option NameKind → Bool
  | some .local => true
  | some .cell => f
  | _ => false
def Gam.ix (Γ : Gam) (x : Str) : Option Nat := if (visK (Γ.sc.names.lookup x) && okN x) = true then ixOf x Γ.N else none
def Gam.lx (Γ : Gam) (x : Str) : Option Nat := if (stoK (Γ.fc x) (Γ.sc.names.lookup x) && okN x) = true then ixOf x Γ.N else none
def Gam.loc (Γ : Gam) (x : Str) : Bool := locK (Γ.sc.names.lookup x)
def Gam.gl (Γ : Gam) (x : Str) : Option Gk := if (glK (Γ.sc.names.lookup x) && okN x) = true then Γ.tab.lookup x else none
theorem visK_ok {o : Option NameKind} (h : visK o = true) : o = some .local ∨ o = some .cell ∨ o = some .free := by
  unfold visK at h
  split at h
  · exact .inl rfl
  · exact .inr (.inl rfl)
  · exact .inr (.inr rfl)
  · cases h
theorem glK_ok {o : Option NameKind} (h : glK o = true) : o = some .globalImplicit := by
  unfold glK at h
  split at h
  · rfl
  · cases h
theorem locK_ok {o : Option NameKind} (h : locK o = true) : o = some .local := by
  unfold locK at h
  split at h
  · rfl
  · cases h
theorem stoK_ok {f : Bool} {o : Option NameKind} (h : stoK f o = true) : (o = some .local ∨ o = some .cell) ∧ (f = true ∨ o = some .local) := by
  unfold stoK at h
  split at h
  · exact ⟨.inl rfl, .inr rfl⟩
  · exact ⟨.inr rfl, .inl h⟩
  · cases h
theorem okN_ok {x : Str} (h : okN x = true) : (x == ("__debug__" : Str)) = false ∧ (x == ("__classdict__" : Str)) = false := by
  unfold okN at h
  rw [Bool.and_eq_true, Bool.not_eq_true', Bool.not_eq_true'] at h
  exact h
section
variable {X : Cx} {W : WX} {C : Cc} {k : Nat} {Γ : Gam} {x : Str}
theorem Good.ix (G : Good X W C k Γ) {i : Nat} (h : Γ.ix x = some i) : X.N[i]? = some x ∧ Vis X.env.scope x ∧ (x == ("__debug__" : Str)) = false ∧ (x == ("__classdict__" : Str)) = false := by
  unfold Gam.ix at h
  split at h
  · rename_i c
    rw [Bool.and_eq_true] at c
    refine ⟨by rw [G.N]; exact ixOf_get h, ?_, okN_ok c.2⟩
    unfold Vis
    rw [G.sc]
    exact visK_ok c.1
  · cases h
theorem Good.lx (G : Good X W C k Γ) {i : Nat} (h : Γ.lx x = some i) : X.N[i]? = some x ∧ Loc X.env.scope x ∧ (X.fn x = true ∨ X.env.scope.names.lookup x = some .local) ∧ (x == ("__debug__" : Str)) = false := by
  unfold Gam.lx at h
  split at h
  · rename_i c
    rw [Bool.and_eq_true] at c
    obtain ⟨h1, h2⟩ := stoK_ok c.1
    refine ⟨by rw [G.N]; exact ixOf_get h, ?_, ?_, (okN_ok c.2).1⟩
    · unfold L2.Loc
      rw [G.sc]
      exact h1
    · rw [G.sc]
      rcases h2 with q | q
      · exact .inl (G.fc x q)
      · exact .inr q
  · cases h
theorem Good.loc (G : Good X W C k Γ) (h : Γ.loc x = true) : X.env.scope.names.lookup x = some .local := by
  rw [G.sc]
  exact locK_ok h
theorem Good.gl (G : Good X W C k Γ) {g : Gk} (h : Γ.gl x = some g) : Gl X x ∧ GkOk X C k x g ∧ (x == ("__debug__" : Str)) = false := by
  unfold Gam.gl at h
  split at h
  · rename_i c
    rw [Bool.and_eq_true] at c
    refine ⟨?_, G.tab x g h, (okN_ok c.2).1⟩
    show X.env.scope.names.lookup x = _
    rw [G.sc]
    exact glK_ok c.1
  · cases h
end

/-! ### small conditions -/
def plainE : Expr → Bool
  | .Starred .. => false
  | _ => true
theorem star1 {e : Expr} {es : List Expr} {env : PySem.Env} (h : plainE e = true) : starEach (e :: es) env = (false, eval e env) :: starEach es env := by
  cases e <;> first | rfl | cases h
theorem starAny {pos : Pos} {env : PySem.Env} : ∀ {es : List Expr}, es.all plainE = true → (backTo pos (starEach es env)).any (·.1) = false
  | [], _ => rfl
  | e :: es, h => by
    rw [List.all_cons, Bool.and_eq_true] at h
    rw [star1 h.1]
    show ((backTo pos ((false, eval e env) :: starEach es env)).any (·.1)) = false
    unfold backTo
    rw [List.map_cons, List.any_cons]
    exact starAny h.2
def plainB : Expr → Bool
  | .Call .. => false
  | _ => true
theorem base1 {o : Expr} {a : Str} {env : PySem.Env} {w : Sem Value} (h : plainB o = true) : attributeBase o a env w = w := by
  cases o <;> first | rfl | cases h
def plainI : Expr → Bool
  | .Slice .. => false
  | _ => true
theorem ix1 {b : Expr} (h : plainI b = true) : PlainIx b := by
  cases b <;> first | (intro _ _; rfl) | cases h
def plainT : Expr → Bool
  | .UnaryOp .. => false
  | .BoolOp .. => false
  | .IfExp .. => false
  | .Compare .. => false
  | _ => true
theorem test1 {e : Expr} {env : PySem.Env} (h : plainT e = true) : ∀ whole, isTrue e env whole = (do let v ← whole; standAt e.pos; holding [v] (truthy v)) := by
  cases e <;> first | (intro _; rfl) | cases h
def plainS : Expr → Bool
  | .Set .. => false
  | _ => true
theorem set1 {e : Expr} {env : PySem.Env} (h : plainS e = true) : ∀ x, foldedSetIterable e env x = pure x := by
  cases e <;> first | (intro _; rfl) | cases h

/-! ### operators -/
def opG : Operator → Option (D → D → Option R)
  | .Add => some gAdd
  | .Sub => some gSub
  | .Mult => some gMul
  | .FloorDiv => some gDiv
  | .Mod => some gMod
  | .Pow => some gPow
  | _ => none
theorem opG_ok {X : Cx} {op : Operator} {g : D → D → Option R} (h : opG op = some g) : ∃ r2, OpR X (binaryOp op) r2 ∧ OpD X.K r2 g := by
  unfold opG at h
  split at h <;> cases h
  · exact ⟨_, op_addAll, gAdd_ok⟩
  · exact ⟨_, op_sub, gSub_ok⟩
  · exact ⟨_, op_mulAll, gMul_ok⟩
  · exact ⟨_, op_fdivW, gDiv_ok⟩
  · exact ⟨_, op_mod, gMod_ok⟩
  · exact ⟨_, op_pow, gPow_ok⟩
def cmpG : CmpOp → Option (D → D → Option R)
  | .Eq => some gEq
  | .NotEq => some gNe
  | .Lt => some gLt
  | .LtE => some gLe
  | .Gt => some gGt
  | .GtE => some gGe
  | .In => some gIn
  | .NotIn => some gNotIn
  | .Is => some gIsN
  | .IsNot => some gNotN
theorem cmpG_ok {X : Cx} (hu : X.A.units + 64 < cLine) {op : CmpOp} {g : D → D → Option R} (h : cmpG op = some g) : ∃ r2, OpR X (compareOp op) r2 ∧ OpD X.K r2 g := by
  have hu1 : X.A.units + 1 < cLine := by omega
  unfold cmpG at h
  split at h <;> cases h
  · exact ⟨_, op_eqD hu, gEq_ok⟩
  · exact ⟨_, op_neD hu, gNe_ok⟩
  · exact ⟨_, op_lt, gLt_ok⟩
  · exact ⟨_, op_le, gLe_ok⟩
  · exact ⟨_, op_gt, gGt_ok⟩
  · exact ⟨_, op_ge, gGe_ok⟩
  · exact ⟨_, op_inAll hu1, gIn_ok⟩
  · exact ⟨_, op_notInAll hu1, gNotIn_ok⟩
  · exact ⟨_, op_isN, gIsN_ok⟩
  · exact ⟨_, op_notN, gNotN_ok⟩
def biG (x : Str) : Option (List D → Option R) :=
  if x = "len" then some gLen else if x = "int" then some gInt else if x = "str" then some gStr else if x = "list" then some gList else if x = "tuple" then some gTuple
  else if x = "abs" then some gAbs else if x = "max" then some gMax else if x = "min" then some gMin else if x = "all" then some gAll else if x = "any" then some gAny else if x = "sum" then some gSum else none
def BiOk (X : Cx) (x : Str) (g : List D → Option R) : Prop := ∃ r1, CbD X.K r1 g ∧ ((∃ id, CallR X (.builtin id) r1 ∧ bootBuiltins x = some (.builtin id)) ∨ ∃ T, CallR X (.type T) r1 ∧ bootBuiltins x = some (.type T)) ∧ x ≠ "__name__"
theorem biG_ok {X : Cx} (hc : X.calm = true) {x : Str} {g : List D → Option R} (h : biG x = some g) : BiOk X x g := by
  unfold biG at h
  by_cases h1 : x = "len"
  · rw [if_pos h1] at h; cases h; subst h1; exact ⟨_, gLen_ok, .inl ⟨_, call_lenAll, boot_len⟩, by decide⟩
  rw [if_neg h1] at h
  by_cases h1 : x = "int"
  · rw [if_pos h1] at h; cases h; subst h1; exact ⟨_, gInt_ok, .inr ⟨_, call_intAll, boot_int⟩, by decide⟩
  rw [if_neg h1] at h
  by_cases h1 : x = "str"
  · rw [if_pos h1] at h; cases h; subst h1; exact ⟨_, gStr_ok, .inr ⟨_, call_strAll, boot_str⟩, by decide⟩
  rw [if_neg h1] at h
  by_cases h1 : x = "list"
  · rw [if_pos h1] at h; cases h; subst h1; exact ⟨_, gList_ok, .inr ⟨_, call_listAll hc, boot_list⟩, by decide⟩
  rw [if_neg h1] at h
  by_cases h1 : x = "tuple"
  · rw [if_pos h1] at h; cases h; subst h1; exact ⟨_, gTuple_ok, .inr ⟨_, call_tuple_of, boot_tuple⟩, by decide⟩
  rw [if_neg h1] at h
  by_cases h1 : x = "abs"
  · rw [if_pos h1] at h; cases h; subst h1; exact ⟨_, gAbs_ok, .inl ⟨_, call_abs, by decide +kernel⟩, by decide⟩
  rw [if_neg h1] at h
  by_cases h1 : x = "max"
  · rw [if_pos h1] at h; cases h; subst h1; exact ⟨_, gMax_ok, .inl ⟨_, CallR.or' (call_max2 hc) (cr_max hc), by decide +kernel⟩, by decide⟩
  rw [if_neg h1] at h
  by_cases h1 : x = "min"
  · rw [if_pos h1] at h; cases h; subst h1; exact ⟨_, gMin_ok, .inl ⟨_, CallR.or' (call_min2 hc) (cr_min hc), by decide +kernel⟩, by decide⟩
  rw [if_neg h1] at h
  by_cases h1 : x = "all"
  · rw [if_pos h1] at h; cases h; subst h1; exact ⟨_, gAll_ok, .inl ⟨_, cr_all hc, by decide +kernel⟩, by decide⟩
  rw [if_neg h1] at h
  by_cases h1 : x = "any"
  · rw [if_pos h1] at h; cases h; subst h1; exact ⟨_, gAny_ok, .inl ⟨_, cr_any hc, by decide +kernel⟩, by decide⟩
  rw [if_neg h1] at h
  by_cases h1 : x = "sum"
  · rw [if_pos h1] at h; cases h; subst h1; exact ⟨_, gSum_ok, .inl ⟨_, cr_sum hc, by decide +kernel⟩, by decide⟩
  rw [if_neg h1] at h
  cases h
/-- classes of builtins, for isinstance -/
def tyG (x : Str) : Option String :=
  if x = "int" then some "int" else if x = "str" then some "str" else if x = "bool" then some "bool" else if x = "tuple" then some "tuple" else if x = "list" then some "list" else if x = "dict" then some "dict" else none
theorem tyG_ok {x : Str} {t : String} (h : tyG x = some t) : bootBuiltins x = some (.type t) ∧ x ≠ "__name__" := by
  unfold tyG at h
  by_cases h1 : x = "int"
  · rw [if_pos h1] at h; cases h; subst h1; exact ⟨boot_int, by decide⟩
  rw [if_neg h1] at h
  by_cases h1 : x = "str"
  · rw [if_pos h1] at h; cases h; subst h1; exact ⟨boot_str, by decide⟩
  rw [if_neg h1] at h
  by_cases h1 : x = "bool"
  · rw [if_pos h1] at h; cases h; subst h1; exact ⟨by decide +kernel, by decide⟩
  rw [if_neg h1] at h
  by_cases h1 : x = "tuple"
  · rw [if_pos h1] at h; cases h; subst h1; exact ⟨boot_tuple, by decide⟩
  rw [if_neg h1] at h
  by_cases h1 : x = "list"
  · rw [if_pos h1] at h; cases h; subst h1; exact ⟨boot_list, by decide⟩
  rw [if_neg h1] at h
  by_cases h1 : x = "dict"
  · rw [if_pos h1] at h; cases h; subst h1; exact ⟨by decide +kernel, by decide⟩
  rw [if_neg h1] at h
  cases h
end Kn

/-! Kn13 -/
/-! Kn part 13: one step of the reading of expressions, targets, iterables; it holds. -/
namespace Kn
open PySem PySem.Spec PyProof.Rows L2

abbrev CE := Gam → Expr → Option Sm
abbrev CT := Gam → Expr → Option Sb
def SoundE (E : CE) : Prop := ∀ Γ e f, E Γ e = some f → ∀ X W C k, Good X W C k Γ → PE X e (Eof X W C f)
def SoundT (T : CT) : Prop := ∀ Γ e f, T Γ e = some f → ∀ X W C k, Good X W C k Γ → PT X e (Tof X W C f)

/-! ### rows -/
def rowL (E : Expr → Option Sm) : List Expr → Option Sl
  | [] => some sNil
  | e :: es => if plainE e = true then (E e).bind fun f => (rowL E es).map fun g => sCons f g else none
def rowR (E : Expr → Option Sm) : List Expr → Option Srl
  | [] => some sRNil
  | e :: es => if plainE e = true then (E e).bind fun f => (rowR E es).map fun g => sRCons f g else none
def rowK (E : Expr → Option Sm) : List Nat → List Expr → Option Srl
  | _, [] => some sKNil
  | m :: ms, e :: es => if plainE e = true then (E e).bind fun f => (rowK E ms es).map fun g => sKCons m f g else none
  | [], e :: es => if plainE e = true then (E e).bind fun f => (rowK E [] es).map fun g => sKCons 0 f g else none
section
variable {X : Cx} {W : WX} {C : Cc} {E : Expr → Option Sm}
theorem rowL_ok (h : ∀ e f, E e = some f → PE X e (Eof X W C f)) : ∀ {es : List Expr} {g : Sl}, rowL E es = some g → PA X es (Lof X W C g)
  | [], _, q => by cases q; exact k_nil
  | e :: es, g, q => by
    unfold rowL at q
    split at q
    · rename_i c
      simp only [Option.bind_eq_some_iff, Option.map_eq_some_iff] at q
      obtain ⟨f, h1, g', h2, rfl⟩ := q
      exact k_cons (h e f h1) (rowL_ok h h2) (star1 c)
    · cases q
theorem rowR_ok (h : ∀ e f, E e = some f → PE X e (Eof X W C f)) : ∀ {es : List Expr} {g : Srl}, rowR E es = some g → PA X es (Rof X W C g)
  | [], _, q => by cases q; exact r_nil
  | e :: es, g, q => by
    unfold rowR at q
    split at q
    · rename_i c
      simp only [Option.bind_eq_some_iff, Option.map_eq_some_iff] at q
      obtain ⟨f, h1, g', h2, rfl⟩ := q
      exact r_cons (h e f h1) (rowR_ok h h2) (star1 c)
    · cases q
theorem rowK_ok (h : ∀ e f, E e = some f → PE X e (Eof X W C f)) : ∀ {ms : List Nat} {es : List Expr} {g : Srl}, rowK E ms es = some g → PA X es (Kof X W C g)
  | [], [], _, q => by cases q; exact kk_nil
  | _ :: _, [], _, q => by cases q; exact kk_nil
  | [], e :: es, g, q => by
    unfold rowK at q
    split at q
    · rename_i c
      simp only [Option.bind_eq_some_iff, Option.map_eq_some_iff] at q
      obtain ⟨f, h1, g', h2, rfl⟩ := q
      exact kk_cons (h e f h1) (rowK_ok h h2) (star1 c)
    · cases q
  | m :: ms, e :: es, g, q => by
    unfold rowK at q
    split at q
    · rename_i c
      simp only [Option.bind_eq_some_iff, Option.map_eq_some_iff] at q
      obtain ⟨f, h1, g', h2, rfl⟩ := q
      exact kk_cons (h e f h1) (rowK_ok h h2) (star1 c)
    · cases q
theorem rowL_plain : ∀ {es : List Expr} {g : Sl}, rowL E es = some g → es.all plainE = true
  | [], _, _ => rfl
  | e :: es, g, q => by
    unfold rowL at q
    split at q
    · rename_i c
      simp only [Option.bind_eq_some_iff, Option.map_eq_some_iff] at q
      obtain ⟨f, h1, g', h2, rfl⟩ := q
      rw [List.all_cons, c, rowL_plain h2]; rfl
    · cases q
theorem rowR_plain : ∀ {es : List Expr} {g : Srl}, rowR E es = some g → es.all plainE = true
  | [], _, _ => rfl
  | e :: es, g, q => by
    unfold rowR at q
    split at q
    · rename_i c
      simp only [Option.bind_eq_some_iff, Option.map_eq_some_iff] at q
      obtain ⟨f, h1, g', h2, rfl⟩ := q
      rw [List.all_cons, c, rowR_plain h2]; rfl
    · cases q
theorem rowK_plain : ∀ {ms : List Nat} {es : List Expr} {g : Srl}, rowK E ms es = some g → es.all plainE = true
  | [], [], _, _ => rfl
  | _ :: _, [], _, _ => rfl
  | [], e :: es, g, q => by
    unfold rowK at q
    split at q
    · rename_i c
      simp only [Option.bind_eq_some_iff, Option.map_eq_some_iff] at q
      obtain ⟨f, h1, g', h2, rfl⟩ := q
      rw [List.all_cons, c, rowK_plain h2]; rfl
    · cases q
  | m :: ms, e :: es, g, q => by
    unfold rowK at q
    split at q
    · rename_i c
      simp only [Option.bind_eq_some_iff, Option.map_eq_some_iff] at q
      obtain ⟨f, h1, g', h2, rfl⟩ := q
      rw [List.all_cons, c, rowK_plain h2]; rfl
    · cases q
theorem sRCons_len {f : Sm} {g : Srl} {n : Nat} (h : ∀ C S rs S1, g C S = .ok rs S1 → rs.length = n) : ∀ C S rs S1, sRCons f g C S = .ok rs S1 → rs.length = n + 1 := by
  intro C S rs S1 e
  unfold sRCons at e
  cases e1 : f C S with
  | bad => rw [e1] at e; cases e
  | ex c ns ds S0 => rw [e1] at e; cases e
  | ok r S0 =>
    rw [e1] at e
    have e' : ((g C S0).bind fun rs S2 => O.ok (unfr r :: rs) S2) = .ok rs S1 := e
    cases e2 : g C S0 with
    | bad => rw [e2] at e'; cases e'
    | ex c ns ds S0 => rw [e2] at e'; cases e'
    | ok rs' S3 => rw [e2] at e'; cases e'; rw [List.length_cons, h C S0 rs' S1 e2]
theorem sKCons_len {m : Nat} {f : Sm} {g : Srl} {n : Nat} (h : ∀ C S rs S1, g C S = .ok rs S1 → rs.length = n) : ∀ C S rs S1, sKCons m f g C S = .ok rs S1 → rs.length = n + 1 := by
  intro C S rs S1 e
  unfold sKCons at e
  cases e1 : f C S with
  | bad => rw [e1] at e; cases e
  | ex c ns ds S0 => rw [e1] at e; cases e
  | ok r S0 =>
    rw [e1] at e
    have e' : (match adj m r S0 with
      | some (r', S2) => (g C S2).bind fun rs S3 => O.ok (r' :: rs) S3
      | none => .bad) = .ok rs S1 := e
    cases e0 : adj m r S0 with
    | none => rw [e0] at e'; cases e'
    | some p =>
      obtain ⟨r', S2⟩ := p
      rw [e0] at e'
      have e' : ((g C S2).bind fun rs S3 => O.ok (r' :: rs) S3) = .ok rs S1 := e'
      cases e2 : g C S2 with
      | bad => rw [e2] at e'; cases e'
      | ex c ns ds S0 => rw [e2] at e'; cases e'
      | ok rs' S3 => rw [e2] at e'; cases e'; rw [List.length_cons, h C S2 rs' S1 e2]
theorem rowR_len : ∀ {es : List Expr} {g : Srl}, rowR E es = some g → ∀ C S rs S1, g C S = .ok rs S1 → rs.length = es.length
  | [], _, q => by cases q; intro C S rs S1 e; cases e; rfl
  | e :: es, g, q => by
    unfold rowR at q
    split at q
    · simp only [Option.bind_eq_some_iff, Option.map_eq_some_iff] at q
      obtain ⟨f, h1, g', h2, rfl⟩ := q
      exact sRCons_len (rowR_len h2)
    · cases q
theorem rowK_len : ∀ {ms : List Nat} {es : List Expr} {g : Srl}, rowK E ms es = some g → ∀ C S rs S1, g C S = .ok rs S1 → rs.length = es.length
  | [], [], _, q => by cases q; intro C S rs S1 e; cases e; rfl
  | _ :: _, [], _, q => by cases q; intro C S rs S1 e; cases e; rfl
  | [], e :: es, g, q => by
    unfold rowK at q
    split at q
    · simp only [Option.bind_eq_some_iff, Option.map_eq_some_iff] at q
      obtain ⟨f, h1, g', h2, rfl⟩ := q
      exact sKCons_len (rowK_len h2)
    · cases q
  | m :: ms, e :: es, g, q => by
    unfold rowK at q
    split at q
    · simp only [Option.bind_eq_some_iff, Option.map_eq_some_iff] at q
      obtain ⟨f, h1, g', h2, rfl⟩ := q
      exact sKCons_len (rowK_len h2)
    · cases q
end

/-! ### the pieces -/
def cConst : Const → Option Sm
  | .int i => some (sC (.int i))
  | .bool b => some (sC (.bl b))
  | .none => some (sC .non)
  | .str x => some (sC (.str x))
  | _ => none
def cName (Γ : Gam) (x : Str) : Option Sm := match Γ.ix x with
  | some i => some (sVar i)
  | none => match Γ.gl x with
    | some (.cst d) => some (sC d)
    | _ => none
def cBV (E : Expr → Option Sm) (op : BoolOp) : List Expr → Option Sm
  | [] => none
  | [a] => E a
  | a :: b :: rest => (E a).bind fun f => (cBV E op (b :: rest)).map fun g => match op with
    | .And => sAndV f g
    | .Or => sOrV f g
def cBT (T : Expr → Option Sb) (op : BoolOp) : List Expr → Option Sb
  | [] => none
  | [a] => T a
  | a :: b :: rest => (T a).bind fun f => (cBT T op (b :: rest)).map fun g => match op with
    | .And => sAndT f g
    | .Or => sOrT f g
def isiNames (Γ : Gam) : Expr → Option (List String)
  | .Name t _ => match Γ.gl t with
    | some .blt => (tyG t).map fun s => [s]
    | _ => none
  | .Tuple [.Name t _, .Name u _] _ _ => match Γ.gl t, Γ.gl u with
    | some .blt, some .blt => (tyG t).bind fun s => (tyG u).map fun r => [s, r]
    | _, _ => none
  | _ => none
def cIsi (E : Expr → Option Sm) (Γ : Gam) : List Expr → Option Sm
  | [a, b] => if plainE a = true then (E a).bind fun f => (isiNames Γ b).map fun ts => sOp1 (gIsi ts) f else none
  | _ => none
def cCall (E : Expr → Option Sm) (Γ : Gam) (x : Str) (args : List Expr) : Option Sm := match Γ.gl x with
  | some (.fn i n ms) => if args.length = n ∧ args ≠ [] then (rowK E ms args).map fun g => sCall i g else none
  | some .blt => if x = "isinstance" then cIsi E Γ args else if args ≠ [] then (biG x).bind fun g => (rowR E args).map fun f => sBi g f else none
  | _ => none
def m1G (m : Str) : Option (Str → D → Option R) :=
  if m = "join" then some gJoin else if m = "split" then some gSplit else if m = "startswith" then some gStarts else if m = "removeprefix" then some gUnpre else none
def cMeth (E : Expr → Option Sm) (Γ : Gam) (o : Expr) (m : Str) : List Expr → Option Sm
  | [] => if m = "isalnum" then (E o).map fun f => sOp1 (strG gIsalnum) f
    else if m = "pop" then (match o with
      | .Name x _ => (Γ.ix x).map fun i => sPop i
      | _ => none) else none
  | [e] => if plainE e = true then (E e).bind fun fe =>
      if m = "append" then (match o with
        | .Name x _ => (Γ.ix x).map fun i => sApp i fe
        | _ => none)
      else if m = "extend" then (match o with
        | .Name x _ => (Γ.ix x).map fun i => sExt i fe
        | _ => none)
      else if m = "pop" then (match o with
        | .Name x _ => (Γ.ix x).map fun i => sPopAt i fe
        | _ => none)
      else (m1G m).bind fun g => (E o).map fun fo => sMt g fo fe
    else none
  | _ => none
def cPart (E : Expr → Option Sm) : Option Expr → Option So
  | none => some sNoP
  | some e => (E e).map sPart
def cSubs (E : Expr → Option Sm) (a : Expr) : Expr → Option Sm
  | .Slice lo hi none _ => (E a).bind fun fa => (cPart E lo).bind fun l => (cPart E hi).map fun h => sSl fa l h
  | b => if plainI b = true then (E a).bind fun fa => (E b).map fun fb => sOp2 gIdx fa fb else none
def keyC : Option Expr → Option Key
  | some (.Constant (.int i) _ _) => some (.inl i)
  | some (.Constant (.str s) _ _) => some (.inr s)
  | _ => none
def cDict (E : Expr → Option Sm) : List (Option Expr) → List Expr → Option (List Key × Sl)
  | [], [] => some ([], sNil)
  | k :: ks, v :: vs => (keyC k).bind fun kk => (E v).bind fun f => (cDict E ks vs).map fun p => (kk :: p.1, sCons f p.2)
  | _, _ => none
/-- targets -/
def tgL (T : Expr → Option (List Nat × Tg × (PySem.W.Frag → TG))) : List Expr → Option (List Nat × Tgs × (PySem.W.Frag → TGs))
  | [] => some ([], tgsN, fun _ => gNil)
  | e :: es => if plainE e = true then (T e).bind fun p => (tgL T es).map fun q => (p.1 ++ q.1, tgsC p.2.1 q.2.1, fun K => gCons (p.2.2 K) (q.2.2 K)) else none
def tgC (Γ : Gam) : Nat → Expr → Option (List Nat × Tg × (PySem.W.Frag → TG))
  | 0, _ => none
  | n + 1, e => match e with
    | .Name x _ => (Γ.lx x).map fun i => ([i], tgN i, fun _ => gName i)
    | .Tuple es _ _ => (tgL (tgC Γ n) es).map fun p => (p.1, tgT es.length p.2.1, fun K => gTup K es.length (p.2.2 K))
    | _ => none
/-- iterables -/
def cRg (E : Expr → Option Sm) (Γ : Gam) (x : Str) (args : List Expr) : Option Si := if x = "range" then (match Γ.gl x with
    | some .blt => (match args with
      | [_] => (rowR E args).map iRg
      | [_, _] => (rowR E args).map iRg
      | _ => none)
    | _ => none) else none
def cIter (E : Expr → Option Sm) (Γ : Gam) (it : Expr) : Option Si := match it with
  | .Call (.Name x _) args [] _ => (match cRg E Γ x args with
    | some f => some f
    | none => (E it).map iDat)
  | _ => (E it).map iDat
def Gam.blk (Γ : Gam) (scope : Scope) : Gam := { Γ with sc := relS scope Γ.sc, fc := fun x => scope.names.lookup x == some .cell }
def ownOf (N : List Str) (scope : Scope) : List (Str × Nat) := scope.names.filterMap fun y => match y.2 with
  | .local => (ixOf y.1 N).map fun i => (y.1, i)
  | .cell => (ixOf y.1 N).map fun i => (y.1, i)
  | _ => none
def cIfs (T : Expr → Option Sb) : List Expr → Option Sb
  | [] => some sYes
  | [c] => T c
  | _ => none
def kindFn (s : Scope) : Bool := match s.kind with
  | .function => true
  | _ => false
def cLC (E : CE) (T : CT) (Γ : Gam) (elt : Expr) (scope : Scope) : List Comprehension → Option Sm
  | [⟨tg, it, ifs, 0⟩] => if (blkC Γ.N Γ.sc scope (ownOf Γ.N scope) && kindFn (relS scope Γ.sc) && plainS it) = true then
      (cIter (E Γ) Γ it).bind fun fi => (tgC (Γ.blk scope) 4 tg).bind fun p => (cIfs (T (Γ.blk scope)) ifs).bind fun fc => (E (Γ.blk scope) elt).bind fun fe =>
        if p.1.all (fun i => ((ownOf Γ.N scope).map (·.2)).contains i) = true then some (sLc fi p.2.1 fc fe ((ownOf Γ.N scope).map (·.2))) else none
    else none
  | _ => none
def stepE (E : CE) (T : CT) : CE := fun Γ e => match e with
  | .Constant c _ _ => cConst c
  | .Name x _ => cName Γ x
  | .BinOp a op b _ => (opG op).bind fun g => (E Γ a).bind fun fa => (E Γ b).map fun fb => sOp2 g fa fb
  | .UnaryOp op a _ => (match op with
    | .USub => (E Γ a).map fun f => sOp1 gNeg f
    | .Not => (E Γ a).map fun f => sNotV f
    | _ => none)
  | .BoolOp op vs _ => cBV (E Γ) op vs
  | .IfExp c a b _ => (T Γ c).bind fun t => (E Γ a).bind fun fa => (E Γ b).map fun fb => sIte t fa fb
  | .Compare a [op] [b] _ => if behindInMarks op b = false then (cmpG op).bind fun g => (E Γ a).bind fun fa => (E Γ b).map fun fb => sOp2 g fa fb else none
  | .Call (.Name x _) args [] _ => cCall (E Γ) Γ x args
  | .Call (.Attribute o m apos) args [] pos => if (apos.endLine == pos.line && plainB o) = true then cMeth (E Γ) Γ o m args else none
  | .Subscript a b _ => cSubs (E Γ) a b
  | .Tuple es _ _ => (rowL (E Γ) es).map fun f => sTup f
  | .List es _ => (rowL (E Γ) es).map fun f => sLst f
  | .Dict ks vs _ => if ks ≠ [] ∧ ks.length ≤ 15 then (cDict (E Γ) ks vs).map fun p => sDisp p.1 p.2 else none
  | .ListComp elt gens scope _ => cLC E T Γ elt scope gens
  | _ => none
def stepT (E : CE) (T : CT) : CT := fun Γ e => match e with
  | .UnaryOp .Not a _ => (T Γ a).map fun f => sNotT f
  | .BoolOp op vs _ => cBT (T Γ) op vs
  | .Compare a [op] [b] _ => if behindInMarks op b = false then (cmpG op).bind fun g => (E Γ a).bind fun fa => (E Γ b).map fun fb => sB (sOp2 g fa fb) else none
  | e => if plainT e = true then (E Γ e).map fun f => sB f else none
end Kn

/-! Kn14 -/
/-! Kn part 14: the step holds. -/
namespace Kn
open PySem PySem.Spec PyProof.Rows L2

section
variable {X : Cx} {W : WX} {C : Cc} {k : Nat} {Γ : Gam} {E : Expr → Option Sm}
theorem cConst_ok {c : Const} {f : Sm} {j : Nat} {pos : Pos} (h : cConst c = some f) : PE X (.Constant c j pos) (Eof X W C f) := by
  unfold cConst at h
  split at h <;> cases h
  · exact k_int
  · exact k_bl
  · exact k_non
  · exact k_str
theorem cName_ok (G : Good X W C k Γ) {x : Str} {f : Sm} {pos : Pos} (h : cName Γ x = some f) : PE X (.Name x pos) (Eof X W C f) := by
  unfold cName at h
  split at h
  · rename_i i hi
    cases h
    obtain ⟨h1, h2, h3, h4⟩ := G.ix hi
    exact k_var h1 h2 h3 h4
  · split at h
    · rename_i d hd
      cases h
      obtain ⟨h1, ⟨u, v, h2, h3, h4⟩, h5⟩ := G.gl hd
      exact k_glob h1 h2 h3 h4 h5
    · cases h
theorem cBV_ok (hE : ∀ e f, E e = some f → PE X e (Eof X W C f)) {op : BoolOp} {pos : Pos} : ∀ {vs : List Expr} {f : Sm}, cBV E op vs = some f → PE X (.BoolOp op vs pos) (Eof X W C f)
  | [], _, h => by cases h
  | [a], f, h => k_one (hE a f h)
  | a :: b :: rest, f, h => by
    unfold cBV at h
    simp only [Option.bind_eq_some_iff, Option.map_eq_some_iff] at h
    obtain ⟨fa, h1, fb, h2, rfl⟩ := h
    cases op with
    | And => exact k_and (hE a fa h1) (cBV_ok hE h2)
    | Or => exact k_or (hE a fa h1) (cBV_ok hE h2)
theorem cBT_ok {T : Expr → Option Sb} (hT : ∀ e f, T e = some f → PT X e (Tof X W C f)) {op : BoolOp} {pos : Pos} : ∀ {vs : List Expr} {f : Sb}, cBT T op vs = some f → PW X (.BoolOp op vs pos) (Tof X W C f)
  | [], _, h => by cases h
  | [a], f, h => by
    cases op with
    | And => exact pw_and1 (hT a f h)
    | Or => exact pw_or1 (hT a f h)
  | a :: b :: rest, f, h => by
    unfold cBT at h
    simp only [Option.bind_eq_some_iff, Option.map_eq_some_iff] at h
    obtain ⟨fa, h1, fb, h2, rfl⟩ := h
    cases op with
    | And => exact w_and (hT a fa h1) (cBT_ok hT h2)
    | Or => exact w_or (hT a fa h1) (cBT_ok hT h2)
theorem cIsi_ok (G : Good X W C k Γ) (hE : ∀ e f, E e = some f → PE X e (Eof X W C f)) {args : List Expr} {f : Sm} {p pos : Pos} (hg : Gl X "isinstance") (hm : X.mg "isinstance" = none) (h : cIsi E Γ args = some f) : PE X (.Call (.Name "isinstance" p) args [] pos) (Eof X W C f) := by
  unfold cIsi at h
  split at h
  · rename_i a b
    split at h
    · rename_i c
      simp only [Option.bind_eq_some_iff, Option.map_eq_some_iff] at h
      obtain ⟨fa, h1, ts, h2, rfl⟩ := h
      have ha := hE a fa h1
      unfold isiNames at h2
      split at h2
      · rename_i t _
        split at h2
        · rename_i ht
          simp only [Option.map_eq_some_iff] at h2
          obtain ⟨s, h3, rfl⟩ := h2
          obtain ⟨g1, g2, g3⟩ := G.gl ht
          obtain ⟨b1, b2⟩ := tyG_ok h3
          exact k_isi1 ha hg hm g1 g2 b1 b2 g3 (star1 c)
        · cases h2
      · rename_i t _ u _ _ _
        split at h2
        · rename_i ht hu
          simp only [Option.bind_eq_some_iff, Option.map_eq_some_iff] at h2
          obtain ⟨s, h3, r, h4, rfl⟩ := h2
          obtain ⟨g1, g2, g3⟩ := G.gl ht
          obtain ⟨g4, g5, g6⟩ := G.gl hu
          obtain ⟨b1, b2⟩ := tyG_ok h3
          obtain ⟨b3, b4⟩ := tyG_ok h4
          exact k_isi2 ha hg hm g1 g2 b1 b2 g3 g4 g5 b3 b4 g6 (star1 c)
        · cases h2
      · cases h2
    · cases h
  · cases h
theorem cCall_ok (G : Good X W C k Γ) (hE : ∀ e f, E e = some f → PE X e (Eof X W C f)) {x : Str} {args : List Expr} {f : Sm} {p pos : Pos} (h : cCall E Γ x args = some f) : PE X (.Call (.Name x p) args [] pos) (Eof X W C f) := by
  unfold cCall at h
  split at h
  · rename_i i n ms hx
    split at h
    · rename_i c
      simp only [Option.map_eq_some_iff] at h
      obtain ⟨g, h1, rfl⟩ := h
      obtain ⟨g1, ⟨fa, fd, ps, F, m1, m2, m3⟩, g3⟩ := G.gl hx
      have pl := rowK_plain h1
      cases args with
      | nil => exact (c.2 rfl).elim
      | cons e es =>
        rw [List.all_cons, Bool.and_eq_true] at pl
        exact k_call F G.room g1 m1 m2 m3 G.px (fun C S rs S1 q => (rowK_len h1 C S rs S1 q).trans c.1) (rowK_ok hE h1) g3 (star1 pl.1) (starAny pl.2)
    · cases h
  · rename_i hx
    obtain ⟨g1, g2, g3⟩ := G.gl hx
    split at h
    · rename_i c
      subst c
      exact cIsi_ok G hE g1 g2 h
    · split at h
      · rename_i c
        simp only [Option.bind_eq_some_iff, Option.map_eq_some_iff] at h
        obtain ⟨g, h1, f', h2, rfl⟩ := h
        have pl := rowR_plain h2
        obtain ⟨r1, og, ho, hn⟩ := biG_ok (X := X) G.calm h1
        cases args with
        | nil => exact (c rfl).elim
        | cons e es =>
          rw [List.all_cons, Bool.and_eq_true] at pl
          rcases ho with ⟨id, hc, hv⟩ | ⟨T, hc, hv⟩
          · exact k_callB og hc g1 g2 hv (rowR_ok hE h2) hn g3 (star1 pl.1) (starAny pl.2)
          · exact k_callTy og hc g1 g2 hv (rowR_ok hE h2) hn g3 (star1 pl.1) (starAny pl.2)
      · cases h
  · cases h
theorem m1G_ok {m : Str} {g : Str → D → Option R} (h : m1G m = some g) : ∃ id r1, PySem.Slot "str" m id ∧ typeOf (.builtin id) = pure (.type "method_descriptor") ∧ MtR X id r1 ∧ ∀ a, OpD1 X.K (fun x H Q => r1 (.str a) [x] H Q) (g a) := by
  unfold m1G at h
  by_cases h1 : m = "join"
  · rw [if_pos h1] at h; cases h; subst h1; exact ⟨_, _, PySem.F.slot_str_join, PySem.F.type_str_join, mt_join, gJoin_ok⟩
  rw [if_neg h1] at h
  by_cases h1 : m = "split"
  · rw [if_pos h1] at h; cases h; subst h1; exact ⟨_, _, PySem.F.slot_str_split, PySem.F.type_str_split, mt_split, gSplit_ok⟩
  rw [if_neg h1] at h
  by_cases h1 : m = "startswith"
  · rw [if_pos h1] at h; cases h; subst h1; exact ⟨_, _, PySem.F.slot_str_startswith, PySem.F.type_str_startswith, mt_startswith, gStarts_ok⟩
  rw [if_neg h1] at h
  by_cases h1 : m = "removeprefix"
  · rw [if_pos h1] at h; cases h; subst h1; exact ⟨_, _, PySem.F.slot_str_removeprefix, PySem.F.type_str_removeprefix, mt_removeprefix, gUnpre_ok⟩
  rw [if_neg h1] at h
  cases h
theorem few1 {pos : Pos} {env : PySem.Env} {e : Expr} (h : plainE e = true) : ((backTo pos (starEach [e] env)).all (fun x => !x.1) && (backToKw pos (keywordEach [] env)).all (fun x => x.1.isSome) && decide ([e].length + ([] : List Keyword).length + (if ([] : List Keyword).isEmpty then 0 else 1) < 30)) = true := by
  rw [star1 h]
  rfl
theorem cMeth_ok (G : Good X W C k Γ) (hE : ∀ e f, E e = some f → PE X e (Eof X W C f)) {o : Expr} {m : Str} {args : List Expr} {f : Sm} {apos pos : Pos} (hl : (apos.endLine == pos.line) = true) (hb : plainB o = true) (h : cMeth E Γ o m args = some f) : PE X (.Call (.Attribute o m apos) args [] pos) (Eof X W C f) := by
  unfold cMeth at h
  split at h
  · split at h
    · rename_i c
      subst c
      simp only [Option.map_eq_some_iff] at h
      obtain ⟨fo, h1, rfl⟩ := h
      exact k_m0 PySem.F.slot_str_isalnum PySem.F.type_str_isalnum mt_isalnum gIsalnum_ok (hE o fo h1) (base1 hb) hl
    · split at h
      · rename_i c
        subst c
        split at h
        · simp only [Option.map_eq_some_iff] at h
          obtain ⟨i, h1, rfl⟩ := h
          obtain ⟨g1, g2, g3, g4⟩ := G.ix h1
          exact k_pop g1 g2 g3 g4 (base1 hb) hl
        · cases h
      · cases h
  · rename_i e
    split at h
    · rename_i pe
      simp only [Option.bind_eq_some_iff] at h
      obtain ⟨fe, h1, h⟩ := h
      have he := hE e fe h1
      split at h
      · rename_i c
        subst c
        split at h
        · simp only [Option.map_eq_some_iff] at h
          obtain ⟨i, h1, rfl⟩ := h
          obtain ⟨g1, g2, g3, g4⟩ := G.ix h1
          exact k_append g1 g2 g3 g4 he (base1 hb) (few1 pe) hl (star1 pe)
        · cases h
      · split at h
        · rename_i c
          subst c
          split at h
          · simp only [Option.map_eq_some_iff] at h
            obtain ⟨i, h1, rfl⟩ := h
            obtain ⟨g1, g2, g3, g4⟩ := G.ix h1
            exact k_extend g1 g2 g3 g4 he (base1 hb) (few1 pe) hl (star1 pe)
          · cases h
        · split at h
          · rename_i c
            subst c
            split at h
            · simp only [Option.map_eq_some_iff] at h
              obtain ⟨i, h1, rfl⟩ := h
              obtain ⟨g1, g2, g3, g4⟩ := G.ix h1
              exact k_popAt g1 g2 g3 g4 he (base1 hb) (few1 pe) hl (star1 pe)
            · cases h
          · simp only [Option.bind_eq_some_iff, Option.map_eq_some_iff] at h
            obtain ⟨g, h2, fo, h3, rfl⟩ := h
            obtain ⟨id, r1, s1, s2, s3, s4⟩ := m1G_ok (X := X) h2
            exact k_m1 s1 s2 s3 s4 (hE o fo h3) he (star1 pe) (base1 hb) hl
    · cases h
  · cases h
theorem cPart_ok (hE : ∀ e f, E e = some f → PE X e (Eof X W C f)) {e : Option Expr} {f : So} (h : cPart E e = some f) : PO X e (Pof X W C f) := by
  cases e with
  | none => cases h; exact k_noP
  | some e =>
    unfold cPart at h
    simp only [Option.map_eq_some_iff] at h
    obtain ⟨g, h1, rfl⟩ := h
    exact k_part (hE e g h1)
theorem cSubs_ok (hu : X.A.units + 1 < cLine) (hE : ∀ e f, E e = some f → PE X e (Eof X W C f)) {a b : Expr} {f : Sm} {pos : Pos} (h : cSubs E a b = some f) : PE X (.Subscript a b pos) (Eof X W C f) := by
  unfold cSubs at h
  split at h
  · simp only [Option.bind_eq_some_iff, Option.map_eq_some_iff] at h
    obtain ⟨fa, h1, l, h2, u, h3, rfl⟩ := h
    exact k_slice (hE a fa h1) (cPart_ok hE h2) (cPart_ok hE h3)
  · split at h
    · rename_i c
      simp only [Option.bind_eq_some_iff, Option.map_eq_some_iff] at h
      obtain ⟨fa, h1, fb, h2, rfl⟩ := h
      exact k_idx hu (hE a fa h1) (hE b fb h2) (ix1 c)
    · cases h
theorem keyC_ok {e : Option Expr} {kk : Key} (h : keyC e = some kk) : ∃ e', e = some e' ∧ PE X e' (tC (kV kk)) := by
  unfold keyC at h
  split at h <;> cases h
  · exact ⟨_, rfl, pe_int⟩
  · exact ⟨_, rfl, pe_str⟩
theorem cDict_ok (hE : ∀ e f, E e = some f → PE X e (Eof X W C f)) {pos : Pos} : ∀ {ks : List (Option Expr)} {vs : List Expr} {p : List Key × Sl}, cDict E ks vs = some p → DPs X W C pos ks vs p.1 p.2 ∧ ks.all (·.isSome) = true ∧ ks.length = vs.length
  | [], [], _, h => by cases h; exact ⟨d_nil, rfl, rfl⟩
  | [], _ :: _, _, h => by cases h
  | _ :: _, [], _, h => by cases h
  | kx :: ks, v :: vs, p, h => by
    unfold cDict at h
    simp only [Option.bind_eq_some_iff, Option.map_eq_some_iff] at h
    obtain ⟨kk, h1, f, h2, q, h3, rfl⟩ := h
    obtain ⟨e', rfl, he⟩ := keyC_ok (X := X) h1
    obtain ⟨z1, z2, z3⟩ := cDict_ok hE h3
    exact ⟨d_cons he (hE v f h2) z1, by rw [List.all_cons, z2]; rfl, by rw [List.length_cons, List.length_cons, z3]⟩
end

/-! ### targets, iterables -/
section
variable {X : Cx} {W : WX} {C : Cc} {k : Nat} {Γ : Gam} {E : Expr → Option Sm}
theorem asgEach1 {e : Expr} {es : List Expr} {env : PySem.Env} (h : plainE e = true) : assignEach (e :: es) env = (false, assign e env) :: assignEach es env := by
  cases e <;> first | rfl | cases h
theorem asgEach_len {env : PySem.Env} : ∀ {es : List Expr}, es.all plainE = true → (assignEach es env).length = es.length ∧ (assignEach es env).findIdx? (·.1) = none
  | [], _ => ⟨rfl, rfl⟩
  | e :: es, h => by
    rw [List.all_cons, Bool.and_eq_true] at h
    rw [asgEach1 h.1]
    obtain ⟨h1, h2⟩ := asgEach_len (env := env) h.2
    refine ⟨by rw [List.length_cons, List.length_cons, h1], ?_⟩
    rw [List.findIdx?_eq_none_iff] at h2 ⊢
    intro x hx
    rcases List.mem_cons.mp hx with q | q
    · rw [q]
    · exact h2 x q
theorem tgL_ok {T : Expr → Option (List Nat × Tg × (PySem.W.Frag → TG))} (hT : ∀ e p, T e = some p → PG X e (p.2.2 X.K) ∧ TgSem X.K p.1 p.2.1 (p.2.2 X.K)) : ∀ {es : List Expr} {p : List Nat × Tgs × (PySem.W.Frag → TGs)}, tgL T es = some p → (PGs X es (p.2.2 X.K) ∧ TgsSem X.K p.1 p.2.1 (p.2.2 X.K)) ∧ es.all plainE = true
  | [], _, h => by cases h; exact ⟨⟨pgs_nil, tgsSem_nil⟩, rfl⟩
  | e :: es, p, h => by
    unfold tgL at h
    split at h
    · rename_i c
      simp only [Option.bind_eq_some_iff, Option.map_eq_some_iff] at h
      obtain ⟨q, h1, r, h2, rfl⟩ := h
      obtain ⟨⟨z1, z2⟩, z3⟩ := tgL_ok hT h2
      obtain ⟨y1, y2⟩ := hT e q h1
      exact ⟨⟨pgs_cons y1 z1 (by rw [asgEach1 c]; rfl), tgsSem_cons y2 z2⟩, by rw [List.all_cons, c, z3]; rfl⟩
    · cases h
theorem tgC_ok (G : Good X W C k Γ) : ∀ (n : Nat) (e : Expr) (p : List Nat × Tg × (PySem.W.Frag → TG)), tgC Γ n e = some p → PG X e (p.2.2 X.K) ∧ TgSem X.K p.1 p.2.1 (p.2.2 X.K)
  | 0, _, _, h => by cases h
  | n + 1, e, p, h => by
    unfold tgC at h
    split at h
    · simp only [Option.map_eq_some_iff] at h
      obtain ⟨i, h1, rfl⟩ := h
      obtain ⟨g1, g2, g3, g4⟩ := G.lx h1
      exact ⟨pg_name (by rw [G.N]; exact G.nd) g1 g2 g3, tgSem_name⟩
    · simp only [Option.map_eq_some_iff] at h
      obtain ⟨q, h1, rfl⟩ := h
      obtain ⟨⟨z1, z2⟩, z3⟩ := tgL_ok (tgC_ok G n) h1
      obtain ⟨w1, w2⟩ := asgEach_len (env := X.env) z3
      exact ⟨pg_tup G.calm z1 w1 w2, tgSem_tup z2⟩
    · cases h
theorem tgL_sem {K : PySem.W.Frag} {T : Expr → Option (List Nat × Tg × (PySem.W.Frag → TG))} (hT : ∀ e p, T e = some p → TgSem K p.1 p.2.1 (p.2.2 K)) : ∀ {es : List Expr} {p : List Nat × Tgs × (PySem.W.Frag → TGs)}, tgL T es = some p → TgsSem K p.1 p.2.1 (p.2.2 K)
  | [], _, h => by cases h; exact tgsSem_nil
  | e :: es, p, h => by
    unfold tgL at h
    split at h
    · simp only [Option.bind_eq_some_iff, Option.map_eq_some_iff] at h
      obtain ⟨q, h1, r, h2, rfl⟩ := h
      exact tgsSem_cons (hT e q h1) (tgL_sem hT h2)
    · cases h
theorem tgC_sem {K : PySem.W.Frag} : ∀ (n : Nat) (e : Expr) (p : List Nat × Tg × (PySem.W.Frag → TG)), tgC Γ n e = some p → TgSem K p.1 p.2.1 (p.2.2 K)
  | 0, _, _, h => by cases h
  | n + 1, e, p, h => by
    unfold tgC at h
    split at h
    · simp only [Option.map_eq_some_iff] at h
      obtain ⟨i, h1, rfl⟩ := h
      exact tgSem_name
    · simp only [Option.map_eq_some_iff] at h
      obtain ⟨q, h1, rfl⟩ := h
      exact tgSem_tup (tgL_sem (tgC_sem n) h1)
    · cases h
theorem cRg_ok (G : Good X W C k Γ) (hE : ∀ e f, E e = some f → PE X e (Eof X W C f)) {x : Str} {args : List Expr} {f : Si} {p pos : Pos} {tg : Expr} (h : cRg E Γ x args = some f) : IterOk X W C tg (.Call (.Name x p) args [] pos) f := by
  unfold cRg at h
  split at h
  · rename_i c
    subst c
    split at h
    · rename_i hx
      obtain ⟨g1, g2, g3⟩ := G.gl hx
      split at h
      · rename_i a
        simp only [Option.map_eq_some_iff] at h
        obtain ⟨g, h1, rfl⟩ := h
        have pl := rowR_plain h1
        simp only [List.all_cons, Bool.and_eq_true] at pl
        exact i_range1 g1 g2 (rowR_ok hE h1) (fun C S rs S1 q => rowR_len h1 C S rs S1 q) (star1 pl.1)
      · rename_i a b
        simp only [Option.map_eq_some_iff] at h
        obtain ⟨g, h1, rfl⟩ := h
        have pl := rowR_plain h1
        simp only [List.all_cons, Bool.and_eq_true] at pl
        exact i_range2 g1 g2 (rowR_ok hE h1) (fun C S rs S1 q => rowR_len h1 C S rs S1 q) (by rw [star1 pl.1, star1 pl.2.1]; rfl) (star1 pl.2.1)
      · cases h
    · cases h
  · cases h
theorem cIter_ok (G : Good X W C k Γ) (hE : ∀ e f, E e = some f → PE X e (Eof X W C f)) {it tg : Expr} {f : Si} (h : cIter E Γ it = some f) : IterOk X W C tg it f := by
  have key : ∀ {f : Si}, (E it).map iDat = some f → IterOk X W C tg it f := fun {f} h => by
    simp only [Option.map_eq_some_iff] at h
    obtain ⟨g, h1, rfl⟩ := h
    exact i_dat (hE it g h1)
  unfold cIter at h
  split at h
  · split at h
    · rename_i h1
      cases h
      exact cRg_ok G hE h1
    · exact key h
  · exact key h
theorem yes_ok {σ : St} {H : Hp} {Q : Bool → Hp → Prop} (h : Tof X W C sYes σ H Q) : L2.tYes σ H Q := by
  obtain ⟨F, B, Hs, S, rep, fin⟩ := h
  exact fin H Hs (.refl _) rep
theorem ownOf_ix {N : List Str} {scope : Scope} : ∀ p ∈ ownOf N scope, N[p.2]? = some p.1 := by
  intro p hp
  unfold ownOf at hp
  rw [List.mem_filterMap] at hp
  obtain ⟨y, hy, e⟩ := hp
  split at e
  · simp only [Option.map_eq_some_iff] at e
    obtain ⟨i, h1, rfl⟩ := e
    exact ixOf_get h1
  · simp only [Option.map_eq_some_iff] at e
    obtain ⟨i, h1, rfl⟩ := e
    exact ixOf_get h1
  · cases e
theorem kindFn_ok {s : Scope} (h : kindFn s = true) : s.kind = .function := by
  unfold kindFn at h
  split at h
  · assumption
  · cases h
/-- within a block -/
theorem Good.blk (G : Good X W C k Γ) {scope : Scope} (hk : kindFn (relS scope Γ.sc) = true) (s : Shared) (H : Hp) (A : Addr) (cl : List (Str × Addr)) (fp : List Addr) : Good (X.blk s H scope (compEnvC scope cl A X.env) fp) W0 C k (Γ.blk scope) where
  N := G.N
  nd := G.nd
  sc := by
    show relS scope X.env.scope = relS scope Γ.sc
    rw [G.sc]
  kind := kindFn_ok hk
  calm := G.calm
  hu := G.hu
  px := fun σ pins H' s' e s'' I c => by
    obtain ⟨_, _, _, _, _, _, _, _, _, _, _, _, z⟩ := c
    exact z.elim
  room := G.room
  tab := fun x g h => by
    have z := G.tab x g h
    cases g with
    | cst d => exact z
    | fn i n ms => exact z
    | blt => exact z
  fc := fun x h => h
/-- the parts of a comprehension -/
theorem cLC_parts {E : CE} {T : CT} (hE : SoundE E) (hT : SoundT T) (G : Good X W C k Γ) {elt : Expr} {scope : Scope} {gens : List Comprehension} {f : Sm} (h : cLC E T Γ elt scope gens = some f) :
    ∃ tg it ifs wi g tt fi t fc fe is, gens = [⟨tg, it, ifs, 0⟩] ∧ PI X tg it wi ∧ BlkOk X.N X.env.scope scope (ownOf Γ.N scope) ∧
      (∀ (s : Shared) (H : Hp) (A : Addr) (cl : List (Str × Addr)) (fp : List Addr), PG (X.blk s H scope (compEnvC scope cl A X.env) fp) tg g) ∧
      (∀ (s : Shared) (H : Hp) (A : Addr) (cl : List (Str × Addr)) (fp : List Addr), PTs (X.blk s H scope (compEnvC scope cl A X.env) fp) ifs tt) ∧
      (∀ (s : Shared) (H : Hp) (A : Addr) (cl : List (Str × Addr)) (fp : List Addr), PE (X.blk s H scope (compEnvC scope cl A X.env) fp) elt (Eof X W0 C fe)) ∧ (∀ x, foldedSetIterable it X.env x = pure x) ∧ f = sLc fi t fc fe ((ownOf Γ.N scope).map (·.2)) ∧
      (∀ (F : Hp) (B : List V) (Hs : Hp) (S : Env) (σ : St) (H : Hp) (R : It → Hp → Prop), Rep X.K F B Hs S σ H → FinA X.K X.mg W F B Hs σ (fun ds S' Hs' H' => ∀ J, WalkJ X.K J Hs' ds → R J H') (fi C S) → wi σ H R) ∧
      TgSem X.K is t g ∧ (∀ i ∈ is, i ∈ (ownOf Γ.N scope).map (·.2)) ∧ ∀ σ H Q, Tof X W0 C fc σ H Q → tt σ H Q := by
  unfold cLC at h
  split at h
  · rename_i tg it ifs
    split at h
    · rename_i c
      rw [Bool.and_eq_true, Bool.and_eq_true] at c
      simp only [Option.bind_eq_some_iff] at h
      obtain ⟨fi, h1, p, h2, fc, h3, fe, h4, h5⟩ := h
      split at h5
      · rename_i hall
        cases h5
        obtain ⟨wi, p1, p2⟩ := cIter_ok (tg := tg) G (fun e f q => hE Γ e f q X W C k G) h1
        have Gb := fun s H A cl fp => G.blk c.1.2 s H A cl fp
        have sem : TgSem X.K p.1 p.2.1 (p.2.2 X.K) := tgC_sem 4 tg p h2
        have ifs_ok : ∃ tt, (∀ (s : Shared) (H : Hp) (A : Addr) (cl : List (Str × Addr)) (fp : List Addr), PTs (X.blk s H scope (compEnvC scope cl A X.env) fp) ifs tt) ∧ ∀ σ H Q, Tof X W0 C fc σ H Q → tt σ H Q := by
          unfold cIfs at h3
          split at h3
          · cases h3
            exact ⟨L2.tYes, fun _ _ _ _ _ => pts_nil, fun σ H Q q => yes_ok q⟩
          · rename_i cnd
            exact ⟨Tof X W0 C fc, fun s H A cl fp => pts_one (hT _ _ _ h3 _ _ _ _ (Gb s H A cl fp)), fun σ H Q q => q⟩
          · cases h3
        obtain ⟨tt, t1, t2⟩ := ifs_ok
        refine ⟨tg, it, ifs, wi, p.2.2 X.K, tt, fi, p.2.1, fc, fe, p.1, rfl, p1, ?_, fun s H A cl fp => (tgC_ok (Gb s H A cl fp) 4 tg p h2).1, t1, fun s H A cl fp => hE _ _ _ h4 _ _ _ _ (Gb s H A cl fp), set1 c.2, rfl, p2, sem, fun i hi => ?_, t2⟩
        · rw [G.N, G.sc]
          exact blkOk_by c.1.1
        · have := List.all_eq_true.mp hall i hi
          simpa using this
      · cases h5
    · cases h
  · cases h
theorem cLC_ok {E : CE} {T : CT} (hE : SoundE E) (hT : SoundT T) (G : Good X W C k Γ) {elt : Expr} {scope : Scope} {gens : List Comprehension} {f : Sm} {pos : Pos} (h : cLC E T Γ elt scope gens = some f) : PE X (.ListComp elt gens scope pos) (Eof X W C f) := by
  obtain ⟨tg, it, ifs, wi, g, tt, fi, t, fc, fe, is, rfl, p1, p2, p3, p4, p5, p6, rfl, p7, p8, p9, p10⟩ := cLC_parts hE hT G h
  exact PE.wk (pe_lc G.calm (by rw [G.N]; exact G.nd) p1 p2 p3 p4 p5 p6) fun σ H Q q => lc_ok (tg := tg) (iter := it) p7 p8 p9 p10 q
end

/-! ### the step -/
theorem stepE_ok {E : CE} {T : CT} (hE : SoundE E) (hT : SoundT T) : SoundE (stepE E T) := by
  intro Γ e f h X W C k G
  have hE' : ∀ e f, E Γ e = some f → PE X e (Eof X W C f) := fun e f q => hE Γ e f q X W C k G
  have hT' : ∀ e f, T Γ e = some f → PT X e (Tof X W C f) := fun e f q => hT Γ e f q X W C k G
  have hu1 : X.A.units + 1 < cLine := by have := G.hu; omega
  unfold stepE at h
  split at h
  · exact cConst_ok h
  · exact cName_ok G h
  · simp only [Option.bind_eq_some_iff, Option.map_eq_some_iff] at h
    obtain ⟨g, h1, fa, h2, fb, h3, rfl⟩ := h
    obtain ⟨r2, o1, o2⟩ := opG_ok (X := X) h1
    exact k_op o1 o2 (hE' _ _ h2) (hE' _ _ h3)
  · split at h
    · simp only [Option.map_eq_some_iff] at h
      obtain ⟨fa, h1, rfl⟩ := h
      exact k_neg (hE' _ _ h1)
    · simp only [Option.map_eq_some_iff] at h
      obtain ⟨fa, h1, rfl⟩ := h
      exact k_not (hE' _ _ h1)
    · cases h
  · exact cBV_ok hE' h
  · simp only [Option.bind_eq_some_iff, Option.map_eq_some_iff] at h
    obtain ⟨t, h1, fa, h2, fb, h3, rfl⟩ := h
    exact k_ite (hT' _ _ h1) (hE' _ _ h2) (hE' _ _ h3)
  · split at h
    · rename_i c
      simp only [Option.bind_eq_some_iff, Option.map_eq_some_iff] at h
      obtain ⟨g, h1, fa, h2, fb, h3, rfl⟩ := h
      obtain ⟨r2, o1, o2⟩ := cmpG_ok (X := X) G.hu h1
      exact k_cmp o1 o2 (hE' _ _ h2) (hE' _ _ h3) c
    · cases h
  · exact cCall_ok G hE' h
  · split at h
    · rename_i c
      rw [Bool.and_eq_true] at c
      exact cMeth_ok G hE' c.1 c.2 h
    · cases h
  · exact cSubs_ok hu1 hE' h
  · simp only [Option.map_eq_some_iff] at h
    obtain ⟨g, h1, rfl⟩ := h
    exact k_tup (rowL_ok hE' h1)
  · simp only [Option.map_eq_some_iff] at h
    obtain ⟨g, h1, rfl⟩ := h
    exact k_lst (rowL_ok hE' h1)
  · split at h
    · rename_i c
      simp only [Option.map_eq_some_iff] at h
      obtain ⟨p, h1, rfl⟩ := h
      obtain ⟨z1, z2, z3⟩ := cDict_ok hE' h1
      exact k_disp z1 z2 z3 c.1 c.2
    · cases h
  · exact cLC_ok hE hT G h
  · cases h
theorem stepT_ok {E : CE} {T : CT} (hE : SoundE E) (hT : SoundT T) : SoundT (stepT E T) := by
  intro Γ e f h X W C k G
  have hE' : ∀ e f, E Γ e = some f → PE X e (Eof X W C f) := fun e f q => hE Γ e f q X W C k G
  have hT' : ∀ e f, T Γ e = some f → PT X e (Tof X W C f) := fun e f q => hT Γ e f q X W C k G
  unfold stepT at h
  split at h
  · simp only [Option.map_eq_some_iff] at h
    obtain ⟨fa, h1, rfl⟩ := h
    exact t_not (hT' _ _ h1)
  · exact (cBT_ok hT' h).pt
  · split at h
    · rename_i c
      simp only [Option.bind_eq_some_iff, Option.map_eq_some_iff] at h
      obtain ⟨g, h1, fa, h2, fb, h3, rfl⟩ := h
      obtain ⟨r2, o1, o2⟩ := cmpG_ok (X := X) G.hu h1
      exact t_cmp o1 o2 (hE' _ _ h2) (hE' _ _ h3) c
    · cases h
  · split at h
    · rename_i c
      simp only [Option.map_eq_some_iff] at h
      obtain ⟨fa, h1, rfl⟩ := h
      exact t_val (hE' _ _ h1) (test1 c)
    · cases h
def cET : Nat → CE × CT
  | 0 => (fun _ _ => none, fun _ _ => none)
  | n + 1 => (stepE (cET n).1 (cET n).2, stepT (cET n).1 (cET n).2)
theorem cET_ok : ∀ n, SoundE (cET n).1 ∧ SoundT (cET n).2
  | 0 => ⟨fun _ _ _ h => (nomatch h), fun _ _ _ h => (nomatch h)⟩
  | n + 1 => ⟨stepE_ok (cET_ok n).1 (cET_ok n).2, stepT_ok (cET_ok n).1 (cET_ok n).2⟩
end Kn

/-! Kn15 -/
/-! Kn part 15: statements from their text. -/
namespace Kn
open PySem PySem.Spec PyProof.Rows L2

abbrev CS := Gam → List Stmt → Option Sg
structure GoodS (X : Cx) (W : WX) (C : Cc) (k : Nat) (Γ : Gam) : Prop where
  g : Good X W C k Γ
  po : PassesOwn (model X.prog X.w) X.A X.env X.xe
def SoundS (S : CS) : Prop := ∀ Γ ss f, S Γ ss = some f → ∀ X W C k, GoodS X W C k Γ → PSs X ss (Sof X W C f)

def plainC : Expr → Bool
  | .ListComp .. => false
  | .SetComp .. => false
  | .DictComp .. => false
  | _ => true
theorem noSwap {e : Expr} {t : Option Expr} {l : Nat} {env : PySem.Env} (h : plainC e = true) : swapsWith e t l env = pure false := by
  cases e <;> first | rfl | cases h

/-! ### op= -/
def gIAdd : D → D → Option R
  | .int i, .int j => some (.val (.int (i + j)))
  | .str i, .str j => if i.length + j.length ≤ 16777216 then some (.val (.str (i ++ j))) else none
  | _, _ => none
theorem gIAdd_ok {K : PySem.W.Frag} : OpD K (fun x y H Q => rI0 (fun i j => .int (i + j)) x y H Q ∨ (∃ i j, x = .str i ∧ y = .str j ∧ i.length + j.length ≤ sizeLine ∧ Q (.str (i ++ j)) H)) gIAdd := by
  intro F B Hs S σ H d1 d2 x y r Q rep p1 p2 e g
  unfold gIAdd at e
  split at e
  · cases e
    obtain rfl := p1.int
    obtain rfl := p2.int
    exact .inl ⟨_, _, rfl, rfl, g.val rep (.int _)⟩
  · split at e
    · rename_i c
      cases e
      obtain rfl := p1.str
      obtain rfl := p2.str
      exact .inr ⟨_, _, rfl, rfl, by rw [sizeLine_eq]; exact c, g.val rep (.str _)⟩
    · cases e
  · cases e
def iopG : Operator → Option (D → D → Option R)
  | .Add => some gIAdd
  | .Sub => some gSub
  | _ => none
theorem iopG_ok {X : Cx} {op : Operator} {g : D → D → Option R} (h : iopG op = some g) : ∃ r2, OpR X (inplaceOp op) r2 ∧ OpD X.K r2 g := by
  unfold iopG at h
  split at h <;> cases h
  · exact ⟨_, OpR.or iop_add iop_add_str, gIAdd_ok⟩
  · exact ⟨_, iop_sub, gSub_ok⟩

/-! ### how a row of names is stored -/
def swNames (ts : List Expr) (sc : Scope) : List Str :=
  let line := (ts.head?.map (·.pos.line)).getD 0
  ts.filterMap fun
    | .Name id pos => if sc.names.lookup id == some .local && pos.line == line then some id else none
    | _ => none
def swp (ts vs : List Expr) (sc : Scope) : Option (Option (List Str)) :=
  if (!(ts.length == 2 || ts.length == 3) || vs.length != ts.length) = true then some none
  else if (vs.all plainE) = false then none
  else if ((swNames ts sc).length != ts.length || (swNames ts sc).eraseDups.length != (swNames ts sc).length) = true then some none
  else if (vs.all (foldedForSure 8)) = true then some none
  else if (vs.all (constantsAlone 8)) = true then none
  else some (some (swNames ts sc))
theorem swp_ok {env : PySem.Env} (hk : env.scope.kind = .function) {ts vs : List Expr} {r : Option (List Str)} {k k2 : Nat} {p p2 : Pos} (h : swp ts vs env.scope = some r) : swappedStores [.Tuple ts k p] (.Tuple vs k2 p2) env = pure r := by
  have hb : env.blockKind = .function := by unfold Env.blockKind; rw [hk]; rfl
  unfold swp at h
  unfold swappedStores
  simp only [hb]
  by_cases c1 : (!(ts.length == 2 || ts.length == 3) || vs.length != ts.length) = true
  · rw [if_pos c1] at h
    cases h
    rw [if_pos (by rw [Bool.or_eq_true]; exact .inl c1)]
  · rw [if_neg c1] at h
    rw [if_neg (by rw [Bool.or_eq_true]; rintro (z | z); exact c1 z; revert z; decide)]
    by_cases c2 : vs.all plainE = false
    · rw [if_pos c2] at h; cases h
    · rw [if_neg c2] at h
      rw [if_neg (by
        rw [Bool.not_eq_true, List.any_eq_false]
        intro e he
        have hp : vs.all plainE = true := by simpa using c2
        have := List.all_eq_true.mp hp e he
        cases e <;> first | (cases this; done) | exact Bool.false_ne_true)]
      by_cases c3 : ((swNames ts env.scope).length != ts.length || (swNames ts env.scope).eraseDups.length != (swNames ts env.scope).length) = true
      · rw [if_pos c3] at h
        cases h
        exact if_pos c3
      · rw [if_neg c3] at h
        refine (if_neg c3).trans ?_
        by_cases c4 : vs.all (foldedForSure 8) = true
        · rw [if_pos c4] at h
          cases h
          exact if_pos c4
        · rw [if_neg c4] at h
          refine (if_neg c4).trans ?_
          by_cases c5 : vs.all (constantsAlone 8) = true
          · rw [if_pos c5] at h; cases h
          · rw [if_neg c5] at h
            cases h
            exact if_neg c5

/-! ### the pieces -/
def ixs (Γ : Gam) : List Expr → Option (List Nat)
  | [] => some []
  | .Name x _ :: es => (Γ.lx x).bind fun i => (ixs Γ es).map fun is => i :: is
  | _ => none
def cPar (E : Expr → Option Sm) (Γ : Gam) (ts vs : List Expr) : Option Sg := (ixs Γ ts).bind fun is => (rowK E [1, 1, 1, 1, 1, 1, 1, 1, 1, 1] vs).bind fun f => match swp ts vs Γ.sc with
  | some none => if is.length ≤ 10 then some (sPar is f) else none
  | some (some ns) => (match ts, is with
    | [.Name x _, .Name y _], [i, j] => (match vs with
      | [_, _] => if ns = [x, y] ∧ i ≠ j ∧ Γ.loc x = true ∧ Γ.loc y = true then some (sPar [i, j] f) else none
      | _ => none)
    | [.Name x _, .Name y _, .Name z _], [i, j, l] => (match vs with
      | [_, _, _] => if ns = [x, y, z] ∧ i ≠ j ∧ i ≠ l ∧ j ≠ l ∧ Γ.loc x = true ∧ Γ.loc y = true ∧ Γ.loc z = true then some (sPar [i, j, l] f) else none
      | _ => none)
    | _, _ => none)
  | none => none
def isTupE : Expr → Bool
  | .Tuple .. => true
  | _ => false
def cAsg (E : CE) (T : CT) (Γ : Gam) (tg e : Expr) : Option Sg := match tg with
  | .Name x pt => (match e with
    | .ListComp elt gens scope lp => if Γ.loc x = false then (Γ.lx x).bind fun i => (cLC E T Γ elt scope gens).map fun f => sSet i f
      else if (pt.line == lp.line && !(scope.names.any fun (n, k) => n == x && (k == .local || k == .cell))) = true then
        (Γ.lx x).bind fun i => (cLC E T Γ elt scope gens).map fun f => sSet i f else none
    | _ => if plainC e = true then (Γ.lx x).bind fun i => (E Γ e).map fun f => sSet i f else none)
  | .Tuple ts _ _ => (match e with
    | .Tuple vs _ _ => cPar (E Γ) Γ ts vs
    | _ => if plainC e = true then (tgC Γ 4 tg).bind fun p => (E Γ e).map fun f => sAsg p.2.1 f else none)
  | .Subscript (.Name x _) kx _ => if (plainC e && plainI kx) = true then (Γ.ix x).bind fun i => (E Γ kx).bind fun fk => (E Γ e).map fun fe => sSub i fk fe else none
  | _ => none
def cStmt (E : CE) (T : CT) (SS : CS) (Γ : Gam) : Stmt → Option Sg
  | .Return none _ => some sRetN
  | .Return (some e) _ => (E Γ e).map fun f => sRet f
  | .Pass _ => some sSkip
  | .Break _ => some sBreak
  | .Continue _ => some sCont
  | .Expr e _ => if plainC e = true then (E Γ e).map fun f => sDrop f else none
  | .If c a b _ => (T Γ c).bind fun t => (SS Γ a).bind fun g => (SS Γ b).map fun h => sIf t g h
  | .While c body [] _ => (T Γ c).bind fun t => (SS Γ body).map fun g => sWh t g
  | .For tg it body [] _ => if plainS it = true then (cIter (E Γ) Γ it).bind fun f => (tgC Γ 4 tg).bind fun p => (SS Γ body).map fun g => sFor f p.2.1 g else none
  | .AugAssign (.Name x _) op e _ => (iopG op).bind fun g => (Γ.lx x).bind fun i => (E Γ e).map fun f => sAug i g f
  | .Assign [tg] e _ => cAsg E T Γ tg e
  | _ => none
def cList (P : Stmt → Option Sg) : List Stmt → Option Sg
  | [] => some sSkip
  | [s] => P s
  | s :: ss => (P s).bind fun f => (cList P ss).map fun g => sSeq f g
def cS (E : CE) (T : CT) : Nat → CS
  | 0 => fun _ _ => none
  | n + 1 => fun Γ ss => cList (cStmt E T (cS E T n) Γ) ss

section
variable {X : Cx} {W : WX} {C : Cc} {k : Nat} {Γ : Gam} {E : Expr → Option Sm}
theorem set_okT {i : Nat} {f : Sm} {te : TE} (w : ∀ σ H Q, Eof X W C f σ H Q → te σ H Q) {E : Ends} {σ : St} {H : Hp} (q : Sof X W C (sSet i f) E σ H) : tAsg te (gName i) E σ H := w _ _ _ (set_ok q)
theorem ixs_ok (G : Good X W C k Γ) : ∀ {ts : List Expr} {is : List Nat}, ixs Γ ts = some is → PGs X ts (gNames is) ∧ ts.all plainE = true ∧ ts.length = is.length
  | [], _, h => by cases h; exact ⟨pgs_nil, rfl, rfl⟩
  | e :: es, is, h => by
    unfold ixs at h
    split at h
    · rename_i q; cases q
    · rename_i x pos es' q
      cases q
      simp only [Option.bind_eq_some_iff, Option.map_eq_some_iff] at h
      obtain ⟨i, h1, is', h2, rfl⟩ := h
      obtain ⟨g1, g2, g3, g4⟩ := G.lx h1
      obtain ⟨z1, z2, z3⟩ := ixs_ok G h2
      exact ⟨pgs_cons (pg_name (by rw [G.N]; exact G.nd) g1 g2 g3) z1 (by rfl), by rw [List.all_cons, z2]; rfl, by rw [List.length_cons, List.length_cons, z3]⟩
    · cases h
theorem cPar_ok (G : Good X W C k Γ) (hE : ∀ e f, E e = some f → PE X e (Eof X W C f)) {ts vs : List Expr} {g : Sg} {k1 k2 : Nat} {p1 p2 pos : Pos} (h : cPar E Γ ts vs = some g) : PS X (.Assign [.Tuple ts k1 p1] (.Tuple vs k2 p2) pos) (Sof X W C g) := by
  unfold cPar at h
  simp only [Option.bind_eq_some_iff] at h
  obtain ⟨is, h1, f, h2, h3⟩ := h
  obtain ⟨q1, q2, q3⟩ := ixs_ok G h1
  have hN : X.N.Nodup := by rw [G.N]; exact G.nd
  have hk : X.env.scope.kind = .function := by rw [G.sc]; exact G.kind
  split at h3
  · rename_i hs
    split at h3
    · rename_i c
      cases h3
      rw [← G.sc] at hs
      obtain ⟨w1, w2⟩ := asgEach_len (env := X.env) q2
      exact b_parT (pg_tup G.calm q1 (w1.trans q3) w2) (rowK_ok hE h2) (Nat.le_trans c (by decide)) (by rfl) (swp_ok hk hs) (by rfl)
    · cases h3
  · rename_i ns hs
    rw [← G.sc] at hs
    split at h3
    · split at h3
      · split at h3
        · rename_i c
          obtain ⟨c1, c2, l1, l2⟩ := c
          cases h3
          subst c1
          simp only [ixs, Option.bind_eq_some_iff, Option.map_eq_some_iff] at h1
          obtain ⟨i', e1, is', ⟨j', e2, is'', e3, e4⟩, e5⟩ := h1
          cases e3
          subst e4
          cases e5
          obtain ⟨g1, g2, g3, g4⟩ := G.lx e1
          obtain ⟨g5, g6, g7, g8⟩ := G.lx e2
          exact b_par2 G.calm hN g1 g5 c2 (G.loc l1) (G.loc l2) (rowK_ok hE h2) (swp_ok hk hs) (by rfl)
        · cases h3
      · cases h3
    · split at h3
      · split at h3
        · rename_i c
          obtain ⟨c1, c2, c3, c4, l1, l2, l3⟩ := c
          cases h3
          subst c1
          simp only [ixs, Option.bind_eq_some_iff, Option.map_eq_some_iff] at h1
          obtain ⟨i', e1, is', ⟨j', e2, is'', ⟨l', e3, is3, e4, e5⟩, e6⟩, e7⟩ := h1
          cases e4
          subst e5
          subst e6
          cases e7
          obtain ⟨g1, g2, g3, g4⟩ := G.lx e1
          obtain ⟨g5, g6, g7, g8⟩ := G.lx e2
          obtain ⟨g9, g10, g11, g12⟩ := G.lx e3
          exact b_par3 G.calm hN g1 g5 g9 c2 c3 c4 (G.loc l1) (G.loc l2) (G.loc l3) (rowK_ok hE h2) (swp_ok hk hs) (by rfl)
        · cases h3
      · cases h3
    · cases h3
  · cases h3
theorem sub1 {kx : Expr} {x : Str} {p sp : Pos} {env : PySem.Env} (h : plainI kx = true) : ∀ v, assign (.Subscript (.Name x p) kx sp) env v = (do
      let ov ← holding [v] (eval (.Name x p) env)
      let iv ← holding [v, ov] (eval kx env)
      standAt sp
      holding [v, ov, iv] (setItem ov iv v)
      release [v, ov, iv] []) := by
  cases kx <;> first | (intro _; rfl) | cases h
theorem sw_false (G : Good X W C k Γ) {x : Str} {elt : Expr} {gens : List Comprehension} {scope : Scope} {lp pt : Pos} {l : Nat} (h : Γ.loc x = false) : swapsWith (.ListComp elt gens scope lp) (some (.Name x pt)) l X.env = pure false := by
  have e : (X.env.kindOf x == some .local) = false := by
    cases q : (X.env.kindOf x == some NameKind.local) with
    | false => rfl
    | true =>
      exfalso
      have q2 : X.env.scope.names.lookup x = some .local := by simpa [Env.kindOf] using q
      rw [G.sc] at q2
      unfold Gam.loc at h
      rw [q2] at h
      cases h
  show (pure (X.env.blockKind == .function && X.env.kindOf x == some .local && pt.line == (Expr.ListComp elt gens scope lp).pos.line && !(scope.names.any fun (n, k) => n == x && (k == .local || k == .cell))) : Sem Bool) = pure false
  rw [e, Bool.and_false, Bool.false_and, Bool.false_and]
theorem cAsg_ok {E : CE} {T : CT} (hE : SoundE E) (hT : SoundT T) (G : Good X W C k Γ) {tg e : Expr} {g : Sg} {pos : Pos} (h : cAsg E T Γ tg e = some g) : PS X (.Assign [tg] e pos) (Sof X W C g) := by
  have hN : X.N.Nodup := by rw [G.N]; exact G.nd
  have hk : X.env.scope.kind = .function := by rw [G.sc]; exact G.kind
  have hu1 : X.A.units + 1 < cLine := by have := G.hu; omega
  have hE' : ∀ e f, E Γ e = some f → PE X e (Eof X W C f) := fun e f q => hE Γ e f q X W C k G
  unfold cAsg at h
  split at h
  · rename_i x pt
    split at h
    · rename_i elt gens scope lp
      split at h
      · rename_i c
        simp only [Option.bind_eq_some_iff, Option.map_eq_some_iff] at h
        obtain ⟨i, h1, f, h2, rfl⟩ := h
        obtain ⟨g1, g2, g3, g4⟩ := G.lx h1
        exact b_set hN g1 g2 (cLC_ok hE hT G h2) (sw_false G c) g3
      split at h
      · rename_i hloc c
        have gl := G.loc (x := x) (by simpa using hloc)
        rw [Bool.and_eq_true, Bool.not_eq_true'] at c
        simp only [Option.bind_eq_some_iff, Option.map_eq_some_iff] at h
        obtain ⟨i, h1, f, h2, rfl⟩ := h
        obtain ⟨g1, g2, g3, g4⟩ := G.lx h1
        obtain ⟨tg, it, ifs, wi, g, tt, fi, t, fc, fe, is, rfl, p1, p2, p3, p4, p5, p6, rfl, p7, p8, p9, p10⟩ := cLC_parts hE hT G h2
        refine PS.wk (ps_setLc G.calm hN g1 gl (sw_true hk gl c.1 c.2) p1 p2 p3 p4 p5 p6) fun σ H En q => ?_
        exact set_okT (fun σ H Q q => lc_ok (tg := tg) (iter := it) p7 p8 p9 p10 q) q
      · cases h
    · split at h
      · rename_i c
        simp only [Option.bind_eq_some_iff, Option.map_eq_some_iff] at h
        obtain ⟨i, h1, f, h2, rfl⟩ := h
        obtain ⟨g1, g2, g3, g4⟩ := G.lx h1
        exact b_set hN g1 g2 (hE' _ _ h2) (noSwap c) g3
      · cases h
  · rename_i ts k1 p1
    split at h
    · exact cPar_ok G hE' h
    · rename_i hne
      split at h
      · rename_i c
        simp only [Option.bind_eq_some_iff, Option.map_eq_some_iff] at h
        obtain ⟨p, h1, f, h2, rfl⟩ := h
        obtain ⟨z1, z2⟩ := tgC_ok G 4 _ _ h1
        refine b_asg (hE' _ _ h2) ⟨_, z1, z2⟩ (by unfold swapsWithSole; exact noSwap c) ?_ (by rfl)
        cases e <;> first | rfl | exact (hne _ _ _ rfl).elim
      · cases h
  · rename_i x p kx sp
    split at h
    · rename_i c
      rw [Bool.and_eq_true] at c
      simp only [Option.bind_eq_some_iff, Option.map_eq_some_iff] at h
      obtain ⟨i, h1, fk, h2, fe, h3, rfl⟩ := h
      obtain ⟨g1, g2, g3, g4⟩ := G.ix h1
      refine b_sub hu1 g1 g2 g3 g4 (hE' _ _ h2) (hE' _ _ h3) (sub1 c.2) (by unfold swapsWithSole; exact noSwap c.1) ?_ (by rfl)
      cases e <;> rfl
    · cases h
  · cases h
theorem cStmt_ok {E : CE} {T : CT} {SS : CS} (hE : SoundE E) (hT : SoundT T) (hS : SoundS SS) (G : GoodS X W C k Γ) {s : Stmt} {g : Sg} (h : cStmt E T SS Γ s = some g) : PS X s (Sof X W C g) := by
  have hE' : ∀ e f, E Γ e = some f → PE X e (Eof X W C f) := fun e f q => hE Γ e f q X W C k G.g
  have hT' : ∀ e f, T Γ e = some f → PT X e (Tof X W C f) := fun e f q => hT Γ e f q X W C k G.g
  have hS' : ∀ e f, SS Γ e = some f → PSs X e (Sof X W C f) := fun e f q => hS Γ e f q X W C k G
  have hN : X.N.Nodup := by rw [G.g.N]; exact G.g.nd
  unfold cStmt at h
  split at h
  · cases h; exact b_retN
  · simp only [Option.map_eq_some_iff] at h
    obtain ⟨f, h1, rfl⟩ := h
    exact b_ret (hE' _ _ h1)
  · cases h; exact b_pass
  · cases h; exact b_break
  · cases h; exact b_cont
  · split at h
    · rename_i c
      simp only [Option.map_eq_some_iff] at h
      obtain ⟨f, h1, rfl⟩ := h
      exact b_expr (hE' _ _ h1) (noSwap c)
    · cases h
  · simp only [Option.bind_eq_some_iff, Option.map_eq_some_iff] at h
    obtain ⟨t, h1, f, h2, f', h3, rfl⟩ := h
    exact b_if (hT' _ _ h1) (hS' _ _ h2) (hS' _ _ h3)
  · simp only [Option.bind_eq_some_iff, Option.map_eq_some_iff] at h
    obtain ⟨t, h1, f, h2, rfl⟩ := h
    exact b_while G.po (hT' _ _ h1) (hS' _ _ h2)
  · split at h
    · rename_i c
      simp only [Option.bind_eq_some_iff, Option.map_eq_some_iff] at h
      obtain ⟨f, h1, p, h2, f', h3, rfl⟩ := h
      exact b_for G.po G.g.calm (cIter_ok G.g hE' h1) ⟨_, tgC_ok G.g 4 _ _ h2⟩ (hS' _ _ h3) (set1 c)
    · cases h
  · simp only [Option.bind_eq_some_iff, Option.map_eq_some_iff] at h
    obtain ⟨g, h1, i, h2, f, h3, rfl⟩ := h
    obtain ⟨r2, o1, o2⟩ := iopG_ok (X := X) h1
    obtain ⟨g1, g2, g3, g4⟩ := G.g.lx h2
    exact b_aug o1 o2 hN g1 g2 (hE' _ _ h3) g3
  · exact cAsg_ok hE hT G.g h
  · cases h
theorem cList_ok {P : Stmt → Option Sg} (hP : ∀ s f, P s = some f → PS X s (Sof X W C f)) : ∀ {ss : List Stmt} {g : Sg}, cList P ss = some g → PSs X ss (Sof X W C g)
  | [], _, h => by cases h; exact b_nil
  | [s], g, h => b_one (hP s g h)
  | s :: s' :: ss, g, h => by
    unfold cList at h
    simp only [Option.bind_eq_some_iff, Option.map_eq_some_iff] at h
    obtain ⟨f, h1, f', h2, rfl⟩ := h
    exact b_cons (hP s f h1) (cList_ok hP h2)
end
theorem cS_ok {E : CE} {T : CT} (hE : SoundE E) (hT : SoundT T) : ∀ n, SoundS (cS E T n)
  | 0 => fun _ _ _ h => (nomatch h)
  | n + 1 => fun Γ ss f h X W C k G => cList_ok (fun s f q => cStmt_ok hE hT (cS_ok hE hT n) G q) h
end Kn

/-! Kn16 -/
/-! Kn part 16: the defs of a program. -/
namespace Kn
open PySem PySem.Spec PyProof.Rows L2

structure Fd where
  np : Nat
  nn : Nat
  g : Sg
def keepBor : Slot → Slot
  | .bor d => .bor d
  | _ => .non
def outs (n : Nat) (S : Env) : Env := (S.take n).map keepBor
def bodyRun (F : Fd) (C : Cc) (args : List Slot) : O R := match F.g C (args ++ List.replicate (F.nn - args.length) .non) with
  | .nx S => .ok (.val .non) (outs F.np S)
  | .rt (.val d) S => .ok (.val d) (outs F.np S)
  | .rt (.fr d) S => .ok (.fr d) (outs F.np S)
  | .ex c ns ds S => .ex c ns ds (outs F.np S)
  | _ => .bad
def runP (P : Nat → Option Fd) (fu : Nat) : Nat → Nat → List Slot → O R
  | 0, _, _ => .bad
  | n + 1, i, args => match P i with
    | some F => bodyRun F ⟨runP P fu n, fu⟩ args
    | none => .bad

section
variable {K : PySem.W.Frag} {F : Hp} {B : List V} {Hs Hs' : Hp} {S S' : Env} {σ : St} {H H' : Hp} {vs : List V}
theorem keepBor_some {s t : Slot} (h : keepBor s = t) (m : t.mut.isSome = true) : s = t ∧ ∃ d, t = .bor d := by
  subst h
  cases s with
  | bor d => exact ⟨rfl, d, rfl⟩
  | val d => cases m
  | own d => cases m
  | non => cases m
theorem outs_some {n i : Nat} {t : Slot} (h : (outs n S)[i]? = some t) : i < n ∧ ∃ s, S[i]? = some s ∧ keepBor s = t := by
  unfold outs at h
  rw [List.getElem?_map, Option.map_eq_some_iff] at h
  obtain ⟨s, h1, h2⟩ := h
  rw [List.getElem?_take] at h1
  split at h1
  · rename_i c; exact ⟨c, s, h1, h2⟩
  · cases h1
/-- what the caller sees of a frame that is left -/
theorem Rep.outs (r : Rep K F vs Hs S σ H) : Rep K F vs Hs (outs vs.length S) (vs.map some) H := by
  have bor : ∀ {i : Nat} {t : Slot}, (Kn.outs vs.length S)[i]? = some t → t.mut.isSome = true → S[i]? = some t ∧ ∃ d v, t = .bor d ∧ vs[i]? = some v ∧ σ[i]? = some (some v) := fun {i t} e m => by
    obtain ⟨h1, s, h2, h3⟩ := outs_some e
    obtain ⟨h4, d, h5⟩ := keepBor_some h3 m
    subst h4
    subst h5
    obtain ⟨v, z1, z2⟩ := r.bor i d h2
    exact ⟨h2, d, v, rfl, z1, z2⟩
  refine ⟨r.sub, r.frm, r.dis, by unfold Kn.outs; rw [List.length_map, List.length_take, List.length_map]; exact Nat.min_le_left _ _, fun i d e => ?_, fun i s d e m => ?_, fun i d e => ?_, fun i j s t a e1 e2 m1 m2 z1 z2 => ?_⟩
  · obtain ⟨h1, s, h2, h3⟩ := outs_some e
    cases s <;> cases h3
  · obtain ⟨h1, d', v, h2, h3, h4⟩ := bor e (by rw [m]; rfl)
    obtain ⟨a, o, y1, y2, y3, y4, y5⟩ := r.own i s d h1 m
    rw [h4] at y1
    cases y1
    exact ⟨a, o, by rw [List.getElem?_map, h3]; rfl, y2, y3, y4, y5⟩
  · obtain ⟨h1, d', v, h2, h3, h4⟩ := bor e rfl
    exact ⟨v, h3, by rw [List.getElem?_map, h3]; rfl⟩
  · obtain ⟨h1, d', v, h2, h3, h4⟩ := bor e1 m1
    obtain ⟨h1', d'', v', h2', h3', h4'⟩ := bor e2 m2
    rw [List.getElem?_map, h3] at z1
    rw [List.getElem?_map, h3'] at z2
    cases z1
    cases z2
    exact r.inj i j s t a h1 h1' m1 m2 h4 h4'
theorem Apart.outs (r : Rep K F vs Hs S σ H) {a : Addr} (h : Apart S σ a) : Apart (outs vs.length S) (vs.map some) a := by
  intro i t e m q
  obtain ⟨h1, s, h2, h3⟩ := outs_some e
  obtain ⟨h4, d, h5⟩ := keepBor_some h3 m
  subst h4
  subst h5
  obtain ⟨v, z1, z2⟩ := r.bor i d h2
  rw [List.getElem?_map, z1] at q
  cases q
  exact h i _ h2 rfl z2
/-- a frame at its start -/
theorem Rep.enter {args : List Slot} {N : List Str} (r : Rep K F vs Hs args (vs.map some) H) (hl : args.length = vs.length) (hn : vs.length ≤ N.length) : Rep K F vs Hs (args ++ List.replicate (N.length - args.length) .non) (L2.start N vs) H := by
  have up : ∀ {i : Nat} {s : Slot}, (args ++ List.replicate (N.length - args.length) Slot.non)[i]? = some s → s ≠ .non → args[i]? = some s ∧ (L2.start N vs)[i]? = (vs.map some)[i]? := fun {i s} e n => by
    rw [List.getElem?_append] at e
    split at e
    · rename_i c
      refine ⟨e, ?_⟩
      unfold L2.start
      rw [List.getElem?_append, if_pos (by rw [List.length_map, ← hl]; exact c)]
    · rw [List.getElem?_replicate] at e
      split at e
      · cases e; exact (n rfl).elim
      · cases e
  have mt : ∀ {s : Slot}, s.mut.isSome = true → s ≠ .non := fun {s} m z => by subst z; cases m
  refine ⟨r.sub, r.frm, r.dis, ?_, fun i d e => ?_, fun i s d e m => ?_, fun i d e => ?_, fun i j s t a e1 e2 m1 m2 z1 z2 => ?_⟩
  · unfold L2.start
    simp only [List.length_append, List.length_map, List.length_replicate]
    omega
  · obtain ⟨h1, h2⟩ := up e (fun z => nomatch z)
    rw [h2]
    exact r.val i d h1
  · obtain ⟨h1, h2⟩ := up e (mt (by rw [m]; rfl))
    rw [h2]
    exact r.own i s d h1 m
  · obtain ⟨h1, h2⟩ := up e (fun z => nomatch z)
    rw [h2]
    exact r.bor i d h1
  · obtain ⟨h1, h2⟩ := up e1 (mt m1)
    obtain ⟨h3, h4⟩ := up e2 (mt m2)
    rw [h2] at z1
    rw [h4] at z2
    exact r.inj i j s t a h1 h3 m1 m2 z1 z2
end
/-- the promise, from the body -/
theorem body_ok {X : Cx} {C : Cc} {N : List Str} {g : Sg} {np : Nat} {vs : List V} {H : Hp} {Q : VK} {E : XK} (hn : np ≤ N.length) (h : spK X.K X.mg np (bodyRun ⟨np, N.length, g⟩ C) vs H Q E) :
    Sof X (fun cls d _ H' => E cls d H') C g { nx := fun _ H' => Q .non H', rt := Q } (L2.start N vs) H := by
  obtain ⟨hv, F, Hs, args, hl, rep, fin⟩ := h
  refine ⟨F, vs, Hs, _, rep.enter (N := N) (hl.trans hv.symm) (by rw [hv]; exact hn), ?_⟩
  unfold bodyRun at fin
  simp only at fin
  subst hv
  cases e : g C (args ++ List.replicate (N.length - args.length) .non) with
  | nx S => rw [e] at fin; exact fun σ' H' Hs' s' rep' => fin _ H' Hs' s' rep'.outs .non
  | rt r S =>
    rw [e] at fin
    cases r with
    | val d => exact fun v σ' H' Hs' s' rep' rr => fin v H' Hs' s' rep'.outs rr
    | fr d =>
      intro v σ' H' Hs' s' rep' rr
      obtain ⟨a, o, h1, h2, h3, h4, h5, h6⟩ := rr
      exact fin v H' Hs' s' rep'.outs ⟨a, o, h1, h2, h3, h4, h5, h6.outs rep'⟩
    | sl i => exact fin.elim
  | bk S => rw [e] at fin; exact fin.elim
  | ct S => rw [e] at fin; exact fin.elim
  | ex c ns ds S => rw [e] at fin; exact fun cls d σ' H' Hs' s' rep' xr => fin cls d H' Hs' s' rep'.outs xr
  | bad => rw [e] at fin; exact fin.elim

/-- a def of the text -/
structure Df where
  x : Str
  qual : Str
  st : Stmt
  ps : List Str
  N : List Str
def compF (tab : List (Str × Gk)) (d : Df) : Option Sg := cS (cET 16).1 (cET 16).2 8 ⟨d.N, defScope d.st, tab, fun _ => true⟩ (defBody d.st)
/-- a def stands behind the top -/
structure DfAt (K : PySem.W.Frag) (mg : Str → Option Value) (d : Df) (f : Addr) (fd : FuncData) : Prop where
  fn : Fun K d.x d.qual d.st f fd
  mg : mg d.x = some (.ref f)
  bd : ∀ us : List Value, us.length = d.ps.length → bindArgs fd ⟨us, []⟩ = pure (d.ps.zip us)
def TabAt (mg : Str → Option Value) (Ds : List Df) (x : Str) : Gk → Prop
  | .cst d => True
  | .fn i n _ => ∃ D, Ds[i]? = some D ∧ D.x = x ∧ n = D.ps.length
  | .blt => mg x = none
structure ProgOk (P : Program) (w : World) (K : PySem.W.Frag) (mg : Str → Option Value) (Ds : List Df) (tab : List (Str × Gk)) (pr : Nat → Option Fd) : Prop where
  at_ : ∀ (i : Nat) (D : Df), Ds[i]? = some D → ∃ f fd, DfAt K mg D f fd
  sc : ∀ (i : Nat) (D : Df), Ds[i]? = some D → FnScope D.N D.ps (defScope D.st)
  cp : ∀ (i : Nat) (D : Df), Ds[i]? = some D → ∃ g, compF tab D = some g ∧ pr i = some ⟨D.ps.length, D.N.length, g⟩
  tb : ∀ x g, tab.lookup x = some g → TabAt mg Ds x g
  cst : ∀ x d, tab.lookup x = some (Gk.cst d) → ∃ u v, mg x = some u ∧ RelV v u ∧ ∀ Hs, RV K Hs d v
theorem fnScope_le {N ps : List Str} {sc : Scope} (S : FnScope N ps sc) : ps.length ≤ N.length := by
  have := congrArg List.length S.pre
  rw [List.length_take] at this
  omega
theorem prog_ok {P : Program} {w : World} {K : PySem.W.Frag} {mg : Str → Option Value} {base : Heap} {Ds : List Df} {tab : List (Str × Gk)} {pr : Nat → Option Fd} (fu : Nat) (ok : ProgOk P w K mg Ds tab pr) :
    ∀ (n i : Nat) (D : Df), Ds[i]? = some D → ∃ f fd, DfAt K mg D f fd ∧ FnOk P w K mg base (L2.CX P w) n f fd D.ps (spK K mg D.ps.length (runP pr fu n i))
  | 0, i, D, h => by
    obtain ⟨f, fd, a⟩ := ok.at_ i D h
    refine ⟨f, fd, a, ⟨fun vs H Q E q => q.1, fun A outer s H args us vs Q E _ _ _ _ q => ?_⟩⟩
    obtain ⟨_, F, Hs, args, _, _, fin⟩ := q
    exact fin.elim
  | n + 1, i, D, h => by
    obtain ⟨f, fd, a⟩ := ok.at_ i D h
    obtain ⟨g, c1, c2⟩ := ok.cp i D h
    have S := ok.sc i D h
    refine ⟨f, fd, a, Fun.okX a.fn S (fun vs H Q E q => q.1) fun cdv A outer s H vs Q E hr hsp => ?_⟩
    have hs : spK K mg D.ps.length (bodyRun ⟨D.ps.length, D.N.length, g⟩ ⟨runP pr fu n, fu⟩) vs H Q E := by
      have e : runP pr fu (n + 1) i = bodyRun ⟨D.ps.length, D.N.length, g⟩ ⟨runP pr fu n, fu⟩ := by
        funext args
        show (match pr i with
          | some F => bodyRun F ⟨runP pr fu n, fu⟩ args
          | none => .bad) = _
        rw [c2]
      rw [← e]
      exact hsp
    have tk := takes_of (X := cxOf (L2.CX P w) P w K mg base D.N D.qual (defScope D.st) f cdv A outer s H E) (E := E) rfl rfl rfl rfl
    have G : Good (cxOf (L2.CX P w) P w K mg base D.N D.qual (defScope D.st) f cdv A outer s H E) (fun cls d _ H' => E cls d H') ⟨runP pr fu n, fu⟩ n ⟨D.N, defScope D.st, tab, fun _ => true⟩ := by
      refine ⟨rfl, S.nd, rfl, S.kind, rfl, hr.units, passAt tk, hr, fun x g hx => ?_, fun x _ => rfl⟩
      have z := ok.tb x g hx
      cases g with
      | cst d => exact ok.cst x d hx
      | fn j m ms =>
        obtain ⟨D', z1, z2, z3⟩ := z
        obtain ⟨f', fd', a', F'⟩ := prog_ok (base := base) fu ok n j D' z1
        subst z3
        exact ⟨f', fd', D'.ps, F', by rw [← z2]; exact a'.mg, a'.fn.kp, .all a'.bd⟩
      | blt => exact z
    exact ⟨_, cS_ok (cET_ok 16).1 (cET_ok 16).2 8 _ _ _ c1 _ _ _ n ⟨G, passes_of rfl⟩, body_ok (X := cxOf (L2.CX P w) P w K mg base D.N D.qual (defScope D.st) f cdv A outer s H E) (fnScope_le S) hs⟩
end Kn

/-! Kn17 -/
/-! Kn part 17: from a law's reading to the law. -/
namespace Kn
open PySem PySem.Spec PyProof.Rows L2

def AllIx {α : Type} (P : Nat → α → Prop) : Nat → List α → Prop
  | _, [] => True
  | i, a :: l => P i a ∧ AllIx P (i + 1) l
theorem AllIx.get {α : Type} {P : Nat → α → Prop} : ∀ {l : List α} {i j : Nat} {a : α}, AllIx P i l → l[j]? = some a → P (i + j) a
  | [], _, _, _, _, e => by cases e
  | a :: l, i, 0, _, h, e => by cases e; exact h.1
  | a :: l, i, j + 1, b, h, e => by
    have := AllIx.get (j := j) (a := b) h.2 e
    rw [Nat.add_right_comm, Nat.add_assoc] at this
    exact this
theorem AllIx.mem {α : Type} {P : α → Prop} {l : List α} {i : Nat} {a : α} (h : AllIx (fun _ => P) i l) (m : a ∈ l) : P a := by
  obtain ⟨j, hj⟩ := List.getElem?_of_mem m
  exact h.get hj
def atD : Value → Option D
  | .none => some .non
  | .bool b => some (.bl b)
  | .int i _ => some (.int i)
  | .str x _ => some (.str x)
  | _ => none
def atDs : List Value → Option (List D)
  | [] => some []
  | u :: us => (atD u).bind fun d => (atDs us).map fun ds => d :: ds
theorem atD_ok {K : PySem.W.Frag} {u : Value} {d : D} (h : atD u = some d) : ∃ v, RelV v u ∧ ∀ Hs, RV K Hs d v := by
  unfold atD at h
  split at h <;> cases h
  · exact ⟨.non, rfl, fun _ => .non⟩
  · exact ⟨.bl _, rfl, fun _ => .bl _⟩
  · exact ⟨.int _, ⟨_, rfl⟩, fun _ => .int _⟩
  · exact ⟨.str _, ⟨_, rfl⟩, fun _ => .str _⟩
theorem atDs_ok {K : PySem.W.Frag} : ∀ {us : List Value} {ds : List D}, atDs us = some ds → ∃ vs, Vals vs us ∧ ∀ Hs, RVs K Hs ds vs
  | [], _, h => by cases h; exact ⟨[], .nil, fun _ => .nil⟩
  | u :: us, ds, h => by
    unfold atDs at h
    simp only [Option.bind_eq_some_iff, Option.map_eq_some_iff] at h
    obtain ⟨d, h1, ds', h2, rfl⟩ := h
    obtain ⟨v, r1, r2⟩ := atD_ok (K := K) h1
    obtain ⟨vs, q1, q2⟩ := atDs_ok (K := K) h2
    exact ⟨v :: vs, .cons r1 q1, fun Hs => .cons (r2 Hs) (q2 Hs)⟩
/-- a constant of the text stands behind the top -/
def CstAt (K : PySem.W.Frag) (mg : Str → Option Value) (x : Str) (d : D) : Prop := ∃ u v, mg x = some u ∧ RelV v u ∧ ∀ Hs, RV K Hs d v
theorem cst_at {K : PySem.W.Frag} {mg : Str → Option Value} {x : Str} {u : Value} {d : D} (h : mg x = some u) (e : atD u = some d) : CstAt K mg x d := by
  obtain ⟨v, r1, r2⟩ := atD_ok (K := K) e
  exact ⟨u, v, h, r1, r2⟩
theorem cst_tup {K : PySem.W.Frag} {mg : Str → Option Value} {x : Str} {a : Addr} {od : Option Addr} {its : Array Value} {n : Nat} {sl : Array (Option Value)} {ds : List D} (h : mg x = some (.ref a)) (l : K.lookup a = some ⟨.type "tuple", od, .seq its n, sl⟩) (z : its.size ≤ 1000) (e : atDs its.toList = some ds) : CstAt K mg x (.tup ds) := by
  obtain ⟨vs, r1, r2⟩ := atDs_ok (K := K) e
  exact ⟨.ref a, .ref a, h, rfl, fun Hs => .tup (.inr ⟨_, its, n, l, rfl, rfl, Nat.le_trans z (by decide), r1⟩) (r2 Hs)⟩

/-- where a def stands -/
theorem df_mk {K : PySem.W.Frag} {h : Heap} {mg : Str → Option Value} (X : K.In h) (G : h.Ns mainGlobals mg) {d : Df} {f : Addr} {oc : Value} {od an : Option Addr} {osl : Array (Option Value)} {kV doc pm cdv ct : Value}
    (a : PySem.W.nsIn K mainGlobals d.x = some (some (.ref f))) (l : K.lookup f = some ⟨oc, od, .func (PySem.W.fnOf d.x d.qual (defArgs d.st) (defBody d.st) (defScope d.st) .none kV doc pm an cdv ct), osl⟩)
    (c : PySem.W.codeIn K cdv d.qual = true) (k : PySem.W.keepIn K (.ref f) = true)
    (b : ∀ us : List Value, us.length = d.ps.length → bindArgs (PySem.W.fnOf d.x d.qual (defArgs d.st) (defBody d.st) (defScope d.st) .none kV doc pm an cdv ct) ⟨us, []⟩ = pure (d.ps.zip us)) : ∃ f fd, DfAt K mg d f fd :=
  ⟨f, _, fun_mk l c k, PySem.W.mg_of X G a, b⟩

structure Prog where
  Ds : List Df
  Fs : List Fd
  tab : List (Str × Gk)
def Prog.pr (p : Prog) (i : Nat) : Option Fd := p.Fs[i]?
/-- the part of it that no heap rules -/
structure Prog.Ok (p : Prog) : Prop where
  sc : AllIx (fun _ D => FnScope D.N D.ps (defScope D.st)) 0 p.Ds
  cp : AllIx (fun i D => ∃ g, compF p.tab D = some g ∧ p.Fs[i]? = some ⟨D.ps.length, D.N.length, g⟩) 0 p.Ds
  tab : AllIx (fun _ (e : Str × Gk) => match e.2 with
    | .fn i n _ => ∃ D, p.Ds[i]? = some D ∧ D.x = e.1 ∧ n = D.ps.length
    | _ => True) 0 p.tab
/-- the part that the heap rules -/
structure Prog.At (p : Prog) (K : PySem.W.Frag) (mg : Str → Option Value) : Prop where
  at_ : AllIx (fun _ D => ∃ f fd, DfAt K mg D f fd) 0 p.Ds
  tab : AllIx (fun _ (e : Str × Gk) => match e.2 with
    | .cst d => CstAt K mg e.1 d
    | .blt => mg e.1 = none
    | _ => True) 0 p.tab
theorem Prog.ok {p : Prog} (o : p.Ok) {P : Program} {w : World} {K : PySem.W.Frag} {mg : Str → Option Value} (a : p.At K mg) : ProgOk P w K mg p.Ds p.tab p.pr where
  at_ := fun i D h => a.at_.get h
  sc := fun i D h => o.sc.get h
  cp := fun i D h => by
    have := o.cp.get h
    simp only [Nat.zero_add] at this
    exact this
  tb := fun x g h => by
    have m := PySem.mem_of_lookup h
    cases g with
    | cst d => trivial
    | fn i n ms => exact o.tab.mem m
    | blt => exact a.tab.mem m
  cst := fun x d h => a.tab.mem (PySem.mem_of_lookup h)

def spLaw (K : PySem.W.Frag) : Sp := fun vs H Q _ => ∃ (a : Addr) (ns : List Int), vs = [.ref a] ∧ SqL K H a (ns.map V.int) ∧ ns.length ≤ 63 ∧ (∀ z ∈ ns, Builtin.Int.intBits z ≤ 1048576) ∧ ∀ H', Q (.bl true) H'
def script (ns : List Int) : D := .scr (ns.map .int)
/-- the law in plain terms: whatever the script, its reading tells True -/
def Prog.Holds (p : Prog) (fu n i : Nat) : Prop := ∀ ns : List Int, ns.length ≤ 63 → (∀ z ∈ ns, Builtin.Int.intBits z ≤ 1048576) → ∃ S, runP p.pr fu n i [.val (script ns)] = .ok (.val (.bl true)) S
theorem ints_rv' {K : PySem.W.Frag} {H : Hp} : ∀ ns : List Int, RVs K H (ns.map .int) (ns.map V.int)
  | [] => .nil
  | n :: ns => .cons (.int n) (ints_rv' ns)
theorem law_imp {p : Prog} {fu n i : Nat} (hl : p.Holds fu n i) {K : PySem.W.Frag} {mg : Str → Option Value} {vs : List V} {H : Hp} {Q : VK} {E : XK} (h : spLaw K vs H Q E) : spK K mg 1 (runP p.pr fu n i) vs H Q E := by
  obtain ⟨a, ns, rfl, hS, h1, h2, k⟩ := h
  refine ⟨rfl, fun _ => none, H, [.val (script ns)], rfl, ⟨.refl _, fun _ _ e => (nomatch e), fun _ _ _ => rfl, Nat.le_refl _, fun j d e => ?_, fun j s d e m => ?_, fun j d e => ?_, fun j l s t b e1 e2 m1 m2 => ?_⟩, ?_⟩
  · cases j with
    | zero => cases e; exact ⟨.ref a, rfl, .scr hS (ints_rv' ns)⟩
    | succ j => cases e
  · cases j with
    | zero => cases e; cases m
    | succ j => cases e
  · cases j with
    | zero => cases e
    | succ j => cases e
  · cases j with
    | zero => cases e1; cases m1
    | succ j => cases e1
  · obtain ⟨S, e⟩ := hl ns h1 h2
    rw [e]
    intro v H' Hs' s' rep rr
    cases rr
    exact k H'
theorem walkK {p : Prog} (o : p.Ok) {fu n i : Nat} (hl : p.Holds fu n i) {D : Df} {x : Str} (hD : p.Ds[i]? = some D) (hps : D.ps = [x]) {l : PySem.W.OpenLaw} {q : Program} {loose : List Str} {XP : (Str → Option Value) → Heap → Prop} {YP : World → Heap → Prop} {d : DefRec} {K : Params → PySem.W.Frag} (hx : D.x = d.name) (hr : Room n callerA)
    (hn : l.most = some 63) (hdf : d.params.defaults = []) (hY : ∀ (w : World) (h : Heap), YP w h → (K w.params).In h)
    (A : ∀ (w : World) (mg : Str → Option Value) (h : Heap), (K w.params).In h → h.Ns mainGlobals mg → p.At (K w.params) mg) :
    PySem.W.WalkO q loose XP YP l.row.toRowW d [] (fun f vs => PySem.call f vs) := by
  refine L2.walk_ofB (n := 63) (k := n) (x := x) (CX := fun w => L2.CX l.prog w) (sp := fun w => spLaw (K w.params)) hn (by decide) hdf hr hY (fun w mg fa h KX G hfa => ?_) (fun w H a ns h1 h2 _ hS => ⟨a, ns, rfl, hS, h1, h2, fun _ => rfl⟩) fun w H s e s' z => ?_
  · have ok : ProgOk l.prog w (K w.params) mg p.Ds p.tab p.pr := Prog.ok o (A w mg h KX G)
    obtain ⟨f, fd, a⟩ := ok.at_ i D hD
    have ef : f = fa := by
      have := a.mg
      rw [hx, hfa] at this
      cases this
      rfl
    subst ef
    refine ⟨fd, fun s u => .of_eq ?_, fun base _ _ => ?_⟩
    · have := a.bd [u] (by rw [hps]; rfl)
      rw [hps] at this
      exact this
    · obtain ⟨f', fd', a', F⟩ := prog_ok (base := base) fu ok n i D hD
      have e1 : f' = f := by
        have := a'.mg
        rw [a.mg] at this
        cases this
        rfl
      subst e1
      have e2 : fd' = fd := by
        obtain ⟨oc, od, kV, doc, pm, an, cdv, ct, osl, _, lk, _⟩ := a.fn.ex
        obtain ⟨oc', od', kV', doc', pm', an', cdv', ct', osl', _, lk', _⟩ := a'.fn.ex
        rw [lk] at lk'
        cases lk'
        rfl
      subst e2
      rw [hps] at F
      exact F.imp fun vs H Q E q => law_imp hl q
  · obtain ⟨_, _, _, _, _, _, _, _, _, _, _, _, z⟩ := z
    exact z.elim
/-- how plain parameters bind -/
theorem bind1 {α : Type} {P : List α → Prop} {n : Nat} (h : ∀ us : List α, us.length = n → P us) : ∀ us : List α, us.length = n → P us := h
end Kn

/-! Kn18 -/
/-! Kn part 18: running a reading: rows for simp, loops, the pen. -/
namespace Kn
open PySem PySem.Spec PyProof.Rows L2

section
variable {C : Cc} {S : Env} {α β : Type}
@[simp] theorem bind_ok (a : α) (f : α → Env → O β) : (O.ok a S).bind f = f a S := rfl
@[simp] theorem bind_ex {c : Str} {ns : List Str} {ds : List D} (f : α → Env → O β) : (O.ex c ns ds S : O α).bind f = .ex c ns ds S := rfl
@[simp] theorem bind_bad (f : α → Env → O β) : (O.bad : O α).bind f = .bad := rfl
@[simp] theorem bindS_ok (a : α) (f : α → Env → OS) : (O.ok a S).bindS f = f a S := rfl
@[simp] theorem bindS_ex {c : Str} {ns : List Str} {ds : List D} (f : α → Env → OS) : (O.ex c ns ds S : O α).bindS f = .ex c ns ds S := rfl
@[simp] theorem bindS_bad (f : α → Env → OS) : (O.bad : O α).bindS f = .bad := rfl
@[simp] theorem osb_nx (f : Env → OS) : (OS.nx S).bind f = f S := rfl
@[simp] theorem osb_rt (r : R) (f : Env → OS) : (OS.rt r S).bind f = .rt r S := rfl
@[simp] theorem osb_bk (f : Env → OS) : (OS.bk S).bind f = .bk S := rfl
@[simp] theorem osb_ct (f : Env → OS) : (OS.ct S).bind f = .ct S := rfl
@[simp] theorem osb_ex {c : Str} {ns : List Str} {ds : List D} (f : Env → OS) : (OS.ex c ns ds S).bind f = .ex c ns ds S := rfl
@[simp] theorem osb_bad (f : Env → OS) : OS.bad.bind f = .bad := rfl
@[simp] theorem x_sC (d : D) : sC d C S = .ok (.val d) S := rfl
@[simp] theorem x_sVar (i : Nat) : sVar i C S = (match S[i]? with
  | some (.val d) => .ok (.val d) S
  | some (.own _) => .ok (.sl i) S
  | some (.bor _) => .ok (.sl i) S
  | _ => .bad) := rfl
@[simp] theorem x_sOp1 (g : D → Option R) (fa : Sm) : sOp1 g fa C S = (fa C S).bind fun r1 S1 => match pk r1 S1 with
  | some d1 => (match g d1 with
    | some r => .ok r S1
    | none => .bad)
  | none => .bad := rfl
@[simp] theorem x_sOp2 (g : D → D → Option R) (fa fb : Sm) : sOp2 g fa fb C S = (fa C S).bind fun r1 S1 => (fb C S1).bind fun r2 S2 => match pk r1 S2, pk r2 S2 with
  | some d1, some d2 => (match g d1 d2 with
    | some r => .ok r S2
    | none => .bad)
  | _, _ => .bad := rfl
@[simp] theorem pk_val (d : D) : pk (.val d) S = some d := rfl
@[simp] theorem pk_fr (d : D) : pk (.fr d) S = some d := rfl
@[simp] theorem pk_sl (i : Nat) : pk (.sl i) S = (match S[i]? with
    | some (.own d) => some d
    | some (.bor d) => some d
    | some (.val d) => some d
    | _ => none) := rfl
@[simp] theorem freeze_val (d : D) : freeze (.val d) S = some (d, S) := rfl
@[simp] theorem freeze_fr (d : D) : freeze (.fr d) S = some (d, S) := rfl
@[simp] theorem freeze_sl (i : Nat) : freeze (.sl i) S = (match S[i]? with
    | some (.own d) => some (d, S.set i (.val d))
    | _ => none) := rfl
@[simp] theorem unfr_val (d : D) : unfr (.val d) = .val d := rfl
@[simp] theorem unfr_fr (d : D) : unfr (.fr d) = .val d := rfl
@[simp] theorem unfr_sl (i : Nat) : unfr (.sl i) = .sl i := rfl
@[simp] theorem x_sFz (f : Sm) : sFz f C S = (f C S).bind fun r S1 => match freeze r S1 with
  | some (d, S2) => .ok d S2
  | none => .bad := rfl
@[simp] theorem x_sNil : sNil C S = .ok [] S := rfl
@[simp] theorem x_sCons (f : Sm) (g : Sl) : sCons f g C S = (sFz f C S).bind fun d S1 => (g C S1).bind fun ds S2 => .ok (d :: ds) S2 := rfl
@[simp] theorem x_sTup (f : Sl) : sTup f C S = (f C S).bind fun ds S1 => if ds.length ≤ 16777216 then .ok (.val (.tup ds)) S1 else .bad := rfl
@[simp] theorem x_sLst (f : Sl) : sLst f C S = (f C S).bind fun ds S1 => if ds.length ≤ 16777216 then .ok (.fr (.lst ds)) S1 else .bad := rfl
@[simp] theorem x_sRNil : sRNil C S = .ok [] S := rfl
@[simp] theorem x_sRCons (f : Sm) (g : Srl) : sRCons f g C S = (f C S).bind fun r S1 => (g C S1).bind fun rs S2 => .ok (unfr r :: rs) S2 := rfl
@[simp] theorem pks_nil : pks [] S = some [] := rfl
@[simp] theorem pks_cons (r : R) (rs : List R) : pks (r :: rs) S = (pk r S).bind fun d => (pks rs S).map fun ds => d :: ds := rfl
@[simp] theorem x_sBi (g : List D → Option R) (f : Srl) : sBi g f C S = (f C S).bind fun rs S1 => match pks rs S1 with
  | some ds => (match g ds with
    | some r => .ok r S1
    | none => .bad)
  | none => .bad := rfl
@[simp] theorem x_sB (f : Sm) : sB f C S = (f C S).bind fun r S1 => match r with
  | .val (.bl b) => .ok b S1
  | _ => .bad := rfl
@[simp] theorem x_sNotT (f : Sb) : sNotT f C S = (f C S).bind fun b S1 => .ok (!b) S1 := rfl
@[simp] theorem x_sAndT (f g : Sb) : sAndT f g C S = (f C S).bind fun b S1 => match b with
  | true => g C S1
  | false => .ok false S1 := rfl
@[simp] theorem x_sOrT (f g : Sb) : sOrT f g C S = (f C S).bind fun b S1 => match b with
  | true => .ok true S1
  | false => g C S1 := rfl
@[simp] theorem x_sNotV (f : Sm) : sNotV f C S = (sB f C S).bind fun b S1 => .ok (.val (.bl (!b))) S1 := rfl
@[simp] theorem x_sAndV (f g : Sm) : sAndV f g C S = (sB f C S).bind fun b S1 => match b with
  | true => g C S1
  | false => .ok (.val (.bl false)) S1 := rfl
@[simp] theorem x_sOrV (f g : Sm) : sOrV f g C S = (sB f C S).bind fun b S1 => match b with
  | true => .ok (.val (.bl true)) S1
  | false => g C S1 := rfl
@[simp] theorem x_sIte (t : Sb) (f g : Sm) : sIte t f g C S = (t C S).bind fun b S1 => match b with
  | true => f C S1
  | false => g C S1 := rfl
@[simp] theorem x_sPart (f : Sm) : sPart f C S = (f C S).bind fun r S1 => match pk r S1 with
  | some (.int i) => .ok (some i) S1
  | _ => .bad := rfl
@[simp] theorem x_sSl (fa : Sm) (lo hi : So) : sSl fa lo hi C S = (fa C S).bind fun r1 S1 => (lo C S1).bind fun l S2 => (hi C S2).bind fun u S3 => match pk r1 S3 with
  | some d => (match gSl d l u with
    | some r => .ok r S3
    | none => .bad)
  | none => .bad := rfl
@[simp] theorem x_sMt (g : Str → D → Option R) (fo fe : Sm) : sMt g fo fe C S = (fo C S).bind fun r1 S1 => match r1 with
  | .val (.str a) => (fe C S1).bind fun r2 S2 => match pk r2 S2 with
    | some d => (match g a d with
      | some r => .ok r S2
      | none => .bad)
    | none => .bad
  | _ => .bad := rfl
@[simp] theorem x_sNoP : sNoP C S = .ok none S := rfl
@[simp] theorem x_sSeq (g h : Sg) : sSeq g h C S = (g C S).bind fun S1 => h C S1 := rfl
@[simp] theorem x_sSkip : sSkip C S = .nx S := rfl
@[simp] theorem x_sBreak : sBreak C S = .bk S := rfl
@[simp] theorem x_sCont : sCont C S = .ct S := rfl
@[simp] theorem x_sDrop (f : Sm) : sDrop f C S = (f C S).bindS fun _ S1 => .nx S1 := rfl
@[simp] theorem x_sIf (t : Sb) (g h : Sg) : sIf t g h C S = (t C S).bindS fun b S1 => match b with
  | true => g C S1
  | false => h C S1 := rfl
@[simp] theorem x_sRet (f : Sm) : sRet f C S = (f C S).bindS fun r S1 => match r with
  | .val d => .rt (.val d) S1
  | .fr d => .rt (.fr d) S1
  | .sl i => match S1[i]? with
    | some (.own d) => .rt (.fr d) (S1.set i .non)
    | _ => .bad := rfl
@[simp] theorem x_sRetN : sRetN C S = .rt (.val .non) S := rfl
@[simp] theorem thaw_val (d : D) : thaw (.val d) S = some (.val d, S) := rfl
@[simp] theorem thaw_fr (d : D) : thaw (.fr d) S = some (.fr d, S) := rfl
@[simp] theorem thaw_sl (i : Nat) : thaw (.sl i) S = (freeze (.sl i) S).map fun p => (.val p.1, p.2) := rfl
@[simp] theorem setR_eq (i : Nat) (r : R) : setR i r S = (match S[i]? with
  | some s => if free s = true then (match r with
    | .val d => some (S.set i (.val d))
    | .fr d => some (S.set i (.own d))
    | .sl _ => none) else none
  | none => none) := by
  unfold setR free
  split <;> split <;> first | rfl | (cases r <;> first | rfl | simp_all) | simp_all
@[simp] theorem free_val (d : D) : free (.val d) = true := rfl
@[simp] theorem free_own (d : D) : free (.own d) = true := rfl
@[simp] theorem free_non : free .non = true := rfl
@[simp] theorem x_sSet (i : Nat) (f : Sm) : sSet i f C S = (f C S).bindS fun r S1 => match thaw r S1 with
  | some (r', S2) => (match setR i r' S2 with
    | some S3 => .nx S3
    | none => .bad)
  | none => .bad := rfl
@[simp] theorem adj_0 (r : R) : adj 0 r S = (freeze r S).map fun p => (.val p.1, p.2) := rfl
@[simp] theorem adj_1 (r : R) : adj 1 r S = thaw r S := rfl
@[simp] theorem adj_2 (r : R) : adj 2 r S = some (r, S) := rfl
@[simp] theorem x_sKNil : sKNil C S = .ok [] S := rfl
@[simp] theorem x_sKCons (m : Nat) (f : Sm) (g : Srl) : sKCons m f g C S = (f C S).bind fun r S1 => match adj m r S1 with
  | some (r', S2) => (g C S2).bind fun rs S3 => .ok (r' :: rs) S3
  | none => .bad := rfl
@[simp] theorem setAll_nil : setAll [] [] S = some S := rfl
@[simp] theorem setAll_val (i : Nat) (is : List Nat) (d : D) (rs : List R) : setAll (i :: is) (.val d :: rs) S = (setR i (.val d) S).bind fun S1 => setAll is rs S1 := rfl
@[simp] theorem setAll_fr (i : Nat) (is : List Nat) (d : D) (rs : List R) : setAll (i :: is) (.fr d :: rs) S = (setR i (.fr d) S).bind fun S1 => setAll is rs S1 := rfl
@[simp] theorem x_sPar (is : List Nat) (f : Srl) : sPar is f C S = (f C S).bindS fun rs S1 => match setAll is rs S1 with
  | some S2 => .nx S2
  | none => .bad := rfl
@[simp] theorem tgN_eq (i : Nat) (d : D) : tgN i d S = setR i (.val d) S := rfl
@[simp] theorem tgsN_eq : tgsN [] S = some S := rfl
@[simp] theorem tgsC_eq (t : Tg) (u : Tgs) (d : D) (r : List D) : tgsC t u (d :: r) S = (t d S).bind fun S1 => u r S1 := rfl
@[simp] theorem tgT_eq (n : Nat) (u : Tgs) (ds : List D) : tgT n u (.tup ds) S = if ds.length = n then u ds S else none := rfl
@[simp] theorem x_sAsg (t : Tg) (f : Sm) : sAsg t f C S = (sFz f C S).bindS fun d S1 => match t d S1 with
  | some S2 => .nx S2
  | none => .bad := rfl
@[simp] theorem x_sFor (it : Si) (t : Tg) (body : Sg) : sFor it t body C S = (it C S).bindS fun ds S1 => forL C t body ds S1 := rfl
@[simp] theorem x_sWh (c : Sb) (body : Sg) : sWh c body C S = whL C c body C.fuel S := rfl
@[simp] theorem x_iDat (f : Sm) : iDat f C S = (sFz f C S).bind fun d S1 => match itemsD d with
  | some ds => .ok ds S1
  | none => .bad := rfl
@[simp] theorem itemsD_lst (ds : List D) : itemsD (.lst ds) = some ds := rfl
@[simp] theorem itemsD_tup (ds : List D) : itemsD (.tup ds) = some ds := rfl
@[simp] theorem itemsD_scr (ds : List D) : itemsD (.scr ds) = some ds := rfl
@[simp] theorem itemsD_str (x : Str) : itemsD (.str x) = some (signsD x) := rfl
@[simp] theorem x_sAug (i : Nat) (g : D → D → Option R) (f : Sm) : sAug i g f C S = (match S[i]? with
  | some (.val d1) => (f C S).bindS fun r S1 => match pk r S1 with
    | some d2 => (match g d1 d2 with
      | some r' => (match setR i r' S1 with
        | some S3 => .nx S3
        | none => .bad)
      | none => .bad)
    | none => .bad
  | _ => .bad) := rfl
@[simp] theorem x_sSub (i : Nat) (fk fe : Sm) : sSub i fk fe C S = (sFz fe C S).bindS fun d S1 => match S1[i]? with
  | some s => (match s.mut with
    | some _ => (fk C S1).bindS fun r S2 => match pk r S2 with
      | some dk => (match (S2[i]?).bind Slot.mut with
        | some c => (match gSet c dk d with
          | some c' => .nx (setAt S2 i c')
          | none => .bad)
        | none => .bad)
      | none => .bad
    | none => .bad)
  | none => .bad := rfl
@[simp] theorem mut_bor (d : D) : (Slot.bor d).mut = some d := rfl
@[simp] theorem mut_own (d : D) : (Slot.own d).mut = some d := rfl
@[simp] theorem setAt_eq (i : Nat) (d : D) : setAt S i d = (match S[i]? with
  | some (.own _) => S.set i (.own d)
  | some (.bor _) => S.set i (.bor d)
  | _ => S) := rfl
@[simp] theorem lstAt_eq (i : Nat) : lstAt S i = (match S[i]? with
  | some (.own (.lst ds)) => some ds
  | some (.bor (.lst ds)) => some ds
  | _ => none) := rfl
@[simp] theorem x_sApp (i : Nat) (f : Sm) : sApp i f C S = (match lstAt S i with
  | some _ => (sFz f C S).bind fun d S1 => match lstAt S1 i with
    | some ds => if ds.length < 16777216 then .ok (.val .non) (setAt S1 i (.lst (ds ++ [d]))) else .bad
    | none => .bad
  | none => .bad) := rfl
@[simp] theorem x_sPopAt (i : Nat) (f : Sm) : sPopAt i f C S = (match lstAt S i with
  | some _ => (sFz f C S).bind fun d S1 => match lstAt S1 i, d with
    | some ds, .int j => if j.natAbs < 9223372036854775808 then (match seqIndex? j ds.length with
      | some k => (match ds[k]? with
        | some y => .ok (.val y) (setAt S1 i (.lst (ds.eraseIdx k)))
        | none => .bad)
      | none => .bad) else .bad
    | _, _ => .bad
  | none => .bad) := rfl
@[simp] theorem x_sDisp (ks : List Key) (f : Sl) : sDisp ks f C S = (f C S).bind fun ds S1 => if ks.length = ds.length ∧ ks.Nodup ∧ ks.length ≤ 15 then .ok (.fr (.dct ks ds)) S1 else .bad := rfl
@[simp] theorem x_iRg (f : Srl) : iRg f C S = (f C S).bind fun rs S1 => match pks rs S1 with
  | some [.int j] => if rgOk j then .ok (rangeD 0 j.toNat) S1 else .bad
  | some [.int i, .int j] => if rgOk i ∧ rgOk j then .ok (rangeD i (j - i).toNat) S1 else .bad
  | _ => .bad := rfl
@[simp] theorem forL_nil (t : Tg) (body : Sg) : forL C t body [] S = .nx S := rfl
/-! calls -/
@[simp] theorem argSlots_nil : argSlots S [] = some [] := rfl
@[simp] theorem argSlots_cons (r : R) (rs : List R) : argSlots S (r :: rs) = (argSlot S r).bind fun s => (argSlots S rs).map fun ss => s :: ss := rfl
@[simp] theorem argSlot_val (d : D) : argSlot S (.val d) = some (.val d) := rfl
@[simp] theorem argSlot_fr (d : D) : argSlot S (.fr d) = some (.bor d) := rfl
@[simp] theorem argSlot_sl' (i : Nat) : argSlot S (.sl i) = (match S[i]? with
    | some (.own d) => some (.bor d)
    | some (.bor d) => some (.bor d)
    | some (.val d) => some (.val d)
    | _ => none) := rfl
@[simp] theorem ndSl_nil : ndSl [] = true := rfl
@[simp] theorem ndSl_val (d : D) (rs : List R) : ndSl (.val d :: rs) = ndSl rs := rfl
@[simp] theorem ndSl_fr (d : D) (rs : List R) : ndSl (.fr d :: rs) = ndSl rs := rfl
@[simp] theorem ndSl_sl (i : Nat) (rs : List R) : ndSl (.sl i :: rs) = (!(rs.any (isSl i)) && ndSl rs) := rfl
@[simp] theorem isSl_val (i : Nat) (d : D) : isSl i (.val d) = false := rfl
@[simp] theorem isSl_fr (i : Nat) (d : D) : isSl i (.fr d) = false := rfl
@[simp] theorem isSl_sl (i j : Nat) : isSl i (.sl j) = (i == j) := rfl
@[simp] theorem okBack_nil : okBack [] [] = true := rfl
@[simp] theorem okBack_bor (d e : D) (as ss : List Slot) : okBack (.bor d :: as) (.bor e :: ss) = okBack as ss := rfl
@[simp] theorem okBack_val (d : D) (s : Slot) (as ss : List Slot) : okBack (.val d :: as) (s :: ss) = okBack as ss := by cases s <;> rfl
@[simp] theorem newAt_nil (i : Nat) (ss : List Slot) : newAt [] ss i = none := by cases ss <;> rfl
@[simp] theorem newAt_sl (k i : Nat) (d : D) (rs : List R) (ss : List Slot) : newAt (.sl k :: rs) (.bor d :: ss) i = if k = i then some d else newAt rs ss i := rfl
@[simp] theorem newAt_val (i : Nat) (d : D) (s : Slot) (rs : List R) (ss : List Slot) : newAt (.val d :: rs) (s :: ss) i = newAt rs ss i := by cases s <;> rfl
@[simp] theorem newAt_fr (i : Nat) (d : D) (s : Slot) (rs : List R) (ss : List Slot) : newAt (.fr d :: rs) (s :: ss) i = newAt rs ss i := by cases s <;> rfl
@[simp] theorem newAt_non (k i : Nat) (rs : List R) (ss : List Slot) : newAt (.sl k :: rs) (.non :: ss) i = newAt rs ss i := rfl
@[simp] theorem putBack_eq (rs : List R) (ss : List Slot) : putBack rs ss S = S.mapIdx fun i s => match newAt rs ss i with
  | some d => (match s with
    | .own _ => .own d
    | .bor _ => .bor d
    | s => s)
  | none => s := rfl
@[simp] theorem x_sCall (i : Nat) (f : Srl) : sCall i f C S = (f C S).bind fun rs S1 => match argSlots S1 rs with
  | none => .bad
  | some as => if ndSl rs = true then (match C.call i as with
    | .ok r ss => if okBack as ss = true then (match r with
      | .sl _ => .bad
      | r => .ok r (putBack rs ss S1)) else .bad
    | .ex c ns ds ss => if okBack as ss = true then .ex c ns ds (putBack rs ss S1) else .bad
    | .bad => .bad) else .bad := rfl
@[simp] theorem keepBor_bor (d : D) : keepBor (.bor d) = .bor d := rfl
@[simp] theorem keepBor_val (d : D) : keepBor (.val d) = .non := rfl
@[simp] theorem keepBor_own (d : D) : keepBor (.own d) = .non := rfl
@[simp] theorem keepBor_non : keepBor .non = .non := rfl
end
/-! operators on known kinds -/
section
variable (a b : Int) (x y : Str)
@[simp] theorem gAdd_int : gAdd (.int a) (.int b) = some (.val (.int (a + b))) := rfl
@[simp] theorem gSub_int : gSub (.int a) (.int b) = some (.val (.int (a - b))) := rfl
@[simp] theorem gIAdd_int : gIAdd (.int a) (.int b) = some (.val (.int (a + b))) := rfl
theorem gMul_small (h : a.natAbs < 2 ^ 64 ∨ b.natAbs < 2 ^ 64) : gMul (.int a) (.int b) = some (.val (.int (a * b))) := by
  exact if_pos (by rcases h with h | h; exact .inl h; exact .inr (.inl h))
theorem gMod_pos (h : 0 < b) : gMod (.int a) (.int b) = some (.val (.int (a % b))) := by
  exact if_pos h
theorem gDiv_pos (h : 0 < b) (h2 : b.natAbs.log2 < 9000) : gDiv (.int a) (.int b) = some (.val (.int (a / b))) := by
  exact if_pos ⟨h, h2⟩
theorem gPow_small (h : 0 ≤ b) (h1 : b ≤ 1000000) (h2 : a.natAbs < 2 ^ 64) : gPow (.int a) (.int b) = some (.val (.int (a ^ b.toNat))) := by
  exact if_pos ⟨h, h1, h2⟩
@[simp] theorem gNeg_int : gNeg (.int a) = some (.val (.int (-a))) := rfl
@[simp] theorem gLt_int : gLt (.int a) (.int b) = some (.val (.bl (decide (a < b)))) := rfl
@[simp] theorem gLe_int : gLe (.int a) (.int b) = some (.val (.bl (decide (a ≤ b)))) := rfl
@[simp] theorem gGt_int : gGt (.int a) (.int b) = some (.val (.bl (decide (b < a)))) := rfl
@[simp] theorem gGe_int : gGe (.int a) (.int b) = some (.val (.bl (decide (b ≤ a)))) := rfl
theorem okD_int : okD (.int a) = true := rfl
@[simp] theorem gEq_int : gEq (.int a) (.int b) = some (.val (.bl (a == b))) := rfl
@[simp] theorem gNe_int : gNe (.int a) (.int b) = some (.val (.bl (!(a == b)))) := rfl
@[simp] theorem gInt_int : gInt [.int a] = some (.val (.int a)) := rfl
@[simp] theorem gAbs_int : gAbs [.int a] = some (.val (.int (if a < 0 then -a else a))) := rfl
@[simp] theorem gLen_lst (ds : List D) : gLen [.lst ds] = some (.val (.int ds.length)) := rfl
@[simp] theorem gLen_tup (ds : List D) : gLen [.tup ds] = some (.val (.int ds.length)) := rfl
@[simp] theorem gList_lst (ds : List D) : gList [.lst ds] = some (.fr (.lst ds)) := rfl
@[simp] theorem gList_tup (ds : List D) : gList [.tup ds] = some (.fr (.lst ds)) := rfl
@[simp] theorem gList_scr (ds : List D) : gList [.scr ds] = some (.fr (.lst ds)) := rfl
@[simp] theorem gTuple_lst (ds : List D) : gTuple [.lst ds] = some (.val (.tup ds)) := rfl
@[simp] theorem gTuple_tup (ds : List D) : gTuple [.tup ds] = some (.val (.tup ds)) := rfl
@[simp] theorem gIdx_lst (ds : List D) : gIdx (.lst ds) (.int a) = (atI ds a).map .val := rfl
@[simp] theorem gIdx_tup (ds : List D) : gIdx (.tup ds) (.int a) = (atI ds a).map .val := rfl
end
theorem atI_nat {α : Type} {xs : List α} {i : Int} (h : 0 ≤ i) (h2 : i < xs.length) : ∃ x, atI xs i = some x ∧ xs[i.toNat]? = some x := by
  have hi : i.toNat < xs.length := by omega
  refine ⟨xs[i.toNat], ?_, List.getElem?_eq_getElem hi⟩
  unfold atI ixN
  rw [if_pos h, if_pos h2]
  exact List.getElem?_eq_getElem hi

/-! ### a def's outcome -/
def finO (np : Nat) : OS → O R
  | .nx S => .ok (.val .non) (outs np S)
  | .rt (.val d) S => .ok (.val d) (outs np S)
  | .rt (.fr d) S => .ok (.fr d) (outs np S)
  | .ex c ns ds S => .ex c ns ds (outs np S)
  | _ => .bad
theorem bodyRun_eq (np nn : Nat) (g : Sg) (C : Cc) (args : List Slot) : bodyRun ⟨np, nn, g⟩ C args = finO np (g C (args ++ List.replicate (nn - args.length) .non)) := by
  unfold bodyRun finO
  rfl
section
variable {np : Nat} {S : Env}
@[simp] theorem fin_nx : finO np (.nx S) = .ok (.val .non) (outs np S) := rfl
@[simp] theorem fin_val (d : D) : finO np (.rt (.val d) S) = .ok (.val d) (outs np S) := rfl
@[simp] theorem fin_fr (d : D) : finO np (.rt (.fr d) S) = .ok (.fr d) (outs np S) := rfl
@[simp] theorem outs_zero : outs 0 S = [] := rfl
@[simp] theorem outs_nil : outs np [] = [] := by cases np <;> rfl
@[simp] theorem outs_succ (s : Slot) : outs (np + 1) (s :: S) = keepBor s :: outs np S := rfl
end
/-- a level of a program -/
theorem runP_eq (pr : Nat → Option Fd) (fu n i : Nat) (args : List Slot) {F : Fd} (h : pr i = some F) : runP pr fu (n + 1) i args = bodyRun F ⟨runP pr fu n, fu⟩ args := by
  show (match pr i with
    | some F => bodyRun F ⟨runP pr fu n, fu⟩ args
    | none => .bad) = _
  rw [h]
/-! ### loops -/
/-- a for loop by an invariant of what is left -/
theorem forL_ind {C : Cc} {t : Tg} {body : Sg} {P : OS → Prop} (I : List D → Env → Prop) {ds : List D} {S : Env} (h0 : I ds S)
    (step : ∀ d ds S, I (d :: ds) S → ∃ S1, t d S = some S1 ∧ ((∃ S2, (body C S1 = .nx S2 ∨ body C S1 = .ct S2) ∧ I ds S2) ∨ (∃ S2, body C S1 = .bk S2 ∧ P (.nx S2)) ∨ (∃ r S2, body C S1 = .rt r S2 ∧ P (.rt r S2))))
    (done : ∀ S, I [] S → P (.nx S)) : P (forL C t body ds S) := by
  induction ds generalizing S with
  | nil => exact done S h0
  | cons d ds ih =>
    obtain ⟨S1, e1, h⟩ := step d ds S h0
    unfold forL
    rw [e1]
    rcases h with ⟨S2, e2, i2⟩ | ⟨S2, e2, p⟩ | ⟨r, S2, e2, p⟩
    · rcases e2 with e2 | e2 <;> (simp only [e2]; exact ih i2)
    · simp only [e2]; exact p
    · simp only [e2]; exact p
/-- a while loop by an invariant and a measure -/
theorem whL_ind {C : Cc} {c : Sb} {body : Sg} {P : OS → Prop} (I : Nat → Env → Prop) {n fuel : Nat} {S : Env} (hf : n < fuel) (h0 : I n S)
    (step : ∀ n S, I n S → (∃ S1, c C S = .ok false S1 ∧ P (.nx S1)) ∨ ∃ S1, c C S = .ok true S1 ∧ ((∃ m S2, (body C S1 = .nx S2 ∨ body C S1 = .ct S2) ∧ m < n ∧ I m S2) ∨ (∃ S2, body C S1 = .bk S2 ∧ P (.nx S2)) ∨ (∃ r S2, body C S1 = .rt r S2 ∧ P (.rt r S2)))) : P (whL C c body fuel S) := by
  induction fuel generalizing n S with
  | zero => omega
  | succ fuel ih =>
    unfold whL
    rcases step n S h0 with ⟨S1, e1, p⟩ | ⟨S1, e1, h⟩
    · simp only [e1, bindS_ok]; exact p
    · simp only [e1, bindS_ok]
      rcases h with ⟨m, S2, e2, hm, i2⟩ | ⟨S2, e2, p⟩ | ⟨r, S2, e2, p⟩
      · rcases e2 with e2 | e2 <;> (simp only [e2]; exact ih (by omega) i2)
      · simp only [e2]; exact p
      · simp only [e2]; exact p
/-- a comprehension -/
theorem cmL_ind {C : Cc} {t : Tg} {ifs : Sb} {elt : Sm} {vs : List Nat} {P : O (List D) → Prop} (I : List D → List D → Env → Prop) {ds acc : List D} {S : Env} (h0 : I ds acc S)
    (step : ∀ d ds acc S, I (d :: ds) acc S → ∃ S1, t d S = some S1 ∧ ((∃ S2, ifs C S1 = .ok false S2 ∧ I ds acc (wipeE S2 vs)) ∨ ∃ S2 y S3, ifs C S1 = .ok true S2 ∧ sFz elt C S2 = .ok y S3 ∧ acc.length < 16777216 ∧ I ds (acc ++ [y]) (wipeE S3 vs)))
    (done : ∀ acc S, I [] acc S → P (.ok acc S)) : P (cmL C t ifs elt vs ds acc S) := by
  induction ds generalizing acc S with
  | nil => exact done acc S h0
  | cons d ds ih =>
    obtain ⟨S1, e1, h⟩ := step d ds acc S h0
    unfold cmL
    rw [e1]
    rcases h with ⟨S2, e2, i2⟩ | ⟨S2, y, S3, e2, e3, hl, i3⟩
    · simp only [e2, bind_ok]; exact ih i2
    · simp only [e2, e3, bind_ok, if_pos hl]
      exact ih i3
end Kn

/-! Kn19 -/
/-! Kn part 19: the pen. -/
namespace Kn
open PySem PySem.Spec PyProof.Rows L2

def penKs : List Key := [.inr "cells", .inr "at", .inr "digits", .inr "count", .inr "fold"]
def penD (cells : List D) (a g c f : Int) : D := .dct penKs [.lst cells, .int a, .int g, .int c, .int f]
/-- a pen that has drawn at most n times -/
structure Pen (n : Nat) (cs : List Int) (a g c f : Int) : Prop where
  a0 : 0 ≤ a
  g0 : 0 ≤ g
  c0 : 0 ≤ c
  c1 : c ≤ n
  f0 : 0 ≤ f
  f1 : f < 2147483647
  len : cs.length ≤ 63
def IsPen (n : Nat) (p : D) : Prop := ∃ cs a g c f, p = penD (cs.map .int) a g c f ∧ Pen n cs a g c f
theorem IsPen.le {n m : Nat} {p : D} (h : IsPen n p) (hl : n ≤ m) : IsPen m p := by
  obtain ⟨cs, a, g, c, f, e, h⟩ := h
  exact ⟨cs, a, g, c, f, e, { h with c1 := by have := h.c1; omega }⟩
section
variable (cs : List D) (a g c f x : Int)
@[simp] theorem pen_cells : gIdx (penD cs a g c f) (.str "cells") = some (.val (.lst cs)) := by kernel_rfl
@[simp] theorem pen_at : gIdx (penD cs a g c f) (.str "at") = some (.val (.int a)) := by kernel_rfl
@[simp] theorem pen_digits : gIdx (penD cs a g c f) (.str "digits") = some (.val (.int g)) := by kernel_rfl
@[simp] theorem pen_count : gIdx (penD cs a g c f) (.str "count") = some (.val (.int c)) := by kernel_rfl
@[simp] theorem pen_fold : gIdx (penD cs a g c f) (.str "fold") = some (.val (.int f)) := by kernel_rfl
theorem penKs_nd : penKs.length < 16777216 ∧ penKs.Nodup := by decide +kernel
theorem penKs_sz : penKs.length = 5 ∧ penKs.Nodup ∧ penKs.length ≤ 15 := by decide +kernel
theorem gSet_pen (k : Str) (d : D) : gSet (penD cs a g c f) (.str k) d = some (.dct (dPut penKs [.lst cs, .int a, .int g, .int c, .int f] (.inr k) d).1 (dPut penKs [.lst cs, .int a, .int g, .int c, .int f] (.inr k) d).2) := if_pos (e := none) penKs_nd
@[simp] theorem set_at : gSet (penD cs a g c f) (.str "at") (.int x) = some (penD cs x g c f) := by rw [gSet_pen]; kernel_rfl
@[simp] theorem set_digits : gSet (penD cs a g c f) (.str "digits") (.int x) = some (penD cs a x c f) := by rw [gSet_pen]; kernel_rfl
@[simp] theorem set_count : gSet (penD cs a g c f) (.str "count") (.int x) = some (penD cs a g x f) := by rw [gSet_pen]; kernel_rfl
@[simp] theorem set_fold : gSet (penD cs a g c f) (.str "fold") (.int x) = some (penD cs a g c x) := by rw [gSet_pen]; kernel_rfl
end
def drawF : Sg := (sSeq (sSub 0 (sC (.str "count")) (sOp2 gAdd (sOp2 gIdx (sVar 0) (sC (.str "count"))) (sC (.int 1))))
  (sSeq (sIf (sAndT (sB (sOp2 gEq (sOp2 gIdx (sVar 0) (sC (.str "digits"))) (sC (.int 0)))) (sB (sOp2 gLt (sOp2 gIdx (sVar 0) (sC (.str "at"))) (sBi gLen (sRCons (sOp2 gIdx (sVar 0) (sC (.str "cells"))) sRNil))))) (sSeq (sSet 3 (sOp2 gIdx (sOp2 gIdx (sVar 0) (sC (.str "cells"))) (sOp2 gIdx (sVar 0) (sC (.str "at")))))
  (sSeq (sSub 0 (sC (.str "at")) (sOp2 gAdd (sOp2 gIdx (sVar 0) (sC (.str "at"))) (sC (.int 1))))
  (sIf (sB (sOp2 gGe (sVar 3) (sOp2 gPow (sC (.int 10)) (sC (.int 18))))) (sSub 0 (sC (.str "digits")) (sOp2 gSub (sVar 3) (sOp2 gPow (sC (.int 10)) (sC (.int 18))))) (sSub 0 (sC (.str "fold")) (sOp2 gMod (sBi gInt (sRCons (sOp2 gAdd (sOp2 gMul (sOp2 gIdx (sVar 0) (sC (.str "fold"))) (sC (.int 48271))) (sVar 3)) sRNil)) (sC (.int 2147483563))))))) sSkip)
  (sSeq (sIf (sB (sOp2 gGt (sOp2 gIdx (sVar 0) (sC (.str "digits"))) (sC (.int 0)))) (sSeq (sSet 4 (sOp2 gMod (sBi gInt (sRCons (sOp2 gIdx (sVar 0) (sC (.str "digits"))) sRNil)) (sVar 1)))
  (sSeq (sSub 0 (sC (.str "digits")) (sOp2 gDiv (sOp2 gIdx (sVar 0) (sC (.str "digits"))) (sVar 1)))
  (sRet (sVar 4)))) sSkip)
  (sSeq (sSet 2 (sOp2 gAdd (sOp2 gAdd (sOp2 gIdx (sVar 0) (sC (.str "fold"))) (sOp2 gMul (sOp2 gIdx (sVar 0) (sC (.str "count"))) (sC (.int 8513)))) (sC (.int 61))))
  (sRet (sOp2 gMod (sOp2 gDiv (sBi gInt (sRCons (sOp2 gMod (sOp2 gPow (sVar 2) (sC (.int 19))) (sC (.int 2305843009213693951))) sRNil)) (sC (.int 256))) (sVar 1)))))))
/-- the second half of a draw -/
def draw2 : Sg := (sSeq (sIf (sB (sOp2 gGt (sOp2 gIdx (sVar 0) (sC (.str "digits"))) (sC (.int 0)))) (sSeq (sSet 4 (sOp2 gMod (sBi gInt (sRCons (sOp2 gIdx (sVar 0) (sC (.str "digits"))) sRNil)) (sVar 1)))
  (sSeq (sSub 0 (sC (.str "digits")) (sOp2 gDiv (sOp2 gIdx (sVar 0) (sC (.str "digits"))) (sVar 1)))
  (sRet (sVar 4)))) sSkip)
  (sSeq (sSet 2 (sOp2 gAdd (sOp2 gAdd (sOp2 gIdx (sVar 0) (sC (.str "fold"))) (sOp2 gMul (sOp2 gIdx (sVar 0) (sC (.str "count"))) (sC (.int 8513)))) (sC (.int 61))))
  (sRet (sOp2 gMod (sOp2 gDiv (sBi gInt (sRCons (sOp2 gMod (sOp2 gPow (sVar 2) (sC (.int 19))) (sC (.int 2305843009213693951))) sRNil)) (sC (.int 256))) (sVar 1)))))
theorem draw2_ok {P : OS → Prop} {C : Cc} {n : Nat} {cs : List Int} {a g c f m : Int} {s3 : Slot} (h : Pen n cs a g c f) (hn : n ≤ 1000000000) (h0 : 0 < m) (h1 : m.natAbs.log2 < 9000)
    (k : ∀ z p s2 s3 s4, 0 ≤ z → z < m → IsPen n p → P (.rt (.val (.int z)) [.bor p, .val (.int m), s2, s3, s4])) : P (draw2 C [.bor (penD (cs.map .int) a g c f), .val (.int m), .non, s3, .non]) := by
  have hp := h.c1
  have hg := h.g0
  have hf := h.f0
  have hf1 := h.f1
  have hc0 := h.c0
  unfold draw2
  by_cases hd : 0 < g
  · simp [hd, gMod_pos _ _ h0, gDiv_pos _ _ h0 h1]
    exact k _ _ _ _ _ (Int.emod_nonneg _ (by omega)) (Int.emod_lt_of_pos _ h0) ⟨cs, a, g / m, c, f, rfl, { h with g0 := Int.ediv_nonneg hg (by omega) }⟩
  · have hb : (f + c * 8513 + 61).natAbs < 2 ^ 64 := by omega
    have hm2 : gMul (.int c) (.int 8513) = some (.val (.int (c * 8513))) := gMul_small _ _ (.inr (by decide))
    simp [hd, gMod_pos _ _ h0, hm2, gPow_small _ 19 (by decide) (by decide) hb, gMod_pos _ 2305843009213693951 (by decide), gDiv_pos _ 256 (by decide) (by decide)]
    exact k _ _ _ _ _ (Int.emod_nonneg _ (by omega)) (Int.emod_lt_of_pos _ h0) ⟨cs, a, g, c, f, rfl, h⟩
theorem drawF_eq : drawF = sSeq (sSub 0 (sC (.str "count")) (sOp2 gAdd (sOp2 gIdx (sVar 0) (sC (.str "count"))) (sC (.int 1)))) (sSeq (sIf (sAndT (sB (sOp2 gEq (sOp2 gIdx (sVar 0) (sC (.str "digits"))) (sC (.int 0)))) (sB (sOp2 gLt (sOp2 gIdx (sVar 0) (sC (.str "at"))) (sBi gLen (sRCons (sOp2 gIdx (sVar 0) (sC (.str "cells"))) sRNil))))) (sSeq (sSet 3 (sOp2 gIdx (sOp2 gIdx (sVar 0) (sC (.str "cells"))) (sOp2 gIdx (sVar 0) (sC (.str "at")))))
  (sSeq (sSub 0 (sC (.str "at")) (sOp2 gAdd (sOp2 gIdx (sVar 0) (sC (.str "at"))) (sC (.int 1))))
  (sIf (sB (sOp2 gGe (sVar 3) (sOp2 gPow (sC (.int 10)) (sC (.int 18))))) (sSub 0 (sC (.str "digits")) (sOp2 gSub (sVar 3) (sOp2 gPow (sC (.int 10)) (sC (.int 18))))) (sSub 0 (sC (.str "fold")) (sOp2 gMod (sBi gInt (sRCons (sOp2 gAdd (sOp2 gMul (sOp2 gIdx (sVar 0) (sC (.str "fold"))) (sC (.int 48271))) (sVar 3)) sRNil)) (sC (.int 2147483563))))))) sSkip) draw2) := rfl
theorem draw_run {P : OS → Prop} {C : Cc} {n : Nat} {p : D} {m : Int} (hp : IsPen n p) (hn : n < 1000000000) (h0 : 0 < m) (h1 : m.natAbs.log2 < 9000)
    (k : ∀ z p s2 s3 s4, 0 ≤ z → z < m → IsPen (n + 1) p → P (.rt (.val (.int z)) [.bor p, .val (.int m), s2, s3, s4])) : P (drawF C [.bor p, .val (.int m), .non, .non, .non]) := by
  obtain ⟨cs, a, g, c, f, rfl, h⟩ := hp
  have q := h.c1
  have h' : Pen (n + 1) cs a g (c + 1) f := { h with c0 := by have := h.c0; omega, c1 := by omega }
  rw [drawF_eq]
  by_cases hg : g = 0
  · by_cases ha : a < cs.length
    · obtain ⟨x, e1, e2⟩ := atI_nat (xs := cs) h.a0 ha
      have e3 : atI (cs.map D.int) a = some (.int x) := by
        obtain ⟨y, f1, f2⟩ := atI_nat (xs := cs.map D.int) h.a0 (by rw [List.length_map]; exact ha)
        rw [List.getElem?_map, e2] at f2
        cases f2
        exact f1
      have hm2 : gMul (.int f) (.int 48271) = some (.val (.int (f * 48271))) := gMul_small _ _ (.inr (by decide))
      have hpw : gPow (.int 10) (.int 18) = some (.val (.int 1000000000000000000)) := by kernel_rfl
      by_cases hx : 1000000000000000000 ≤ x
      · simp [hg, ha, e3, hx, hpw]
        exact draw2_ok { h' with a0 := by have := h.a0; omega, g0 := by omega } hn h0 h1 k
      · simp [hg, ha, e3, hx, hpw, hm2, gMod_pos _ 2147483563 (by decide)]
        exact draw2_ok { h' with a0 := by have := h.a0; omega, g0 := by omega, f0 := Int.emod_nonneg _ (by decide), f1 := by have := Int.emod_lt_of_pos (f * 48271 + x) (b := 2147483563) (by decide); omega } hn h0 h1 k
    · simp [hg, ha]
      exact draw2_ok { h' with g0 := by omega } hn h0 h1 k
  · have hg' : (g == 0) = false := by simpa using hg
    simp [hg']
    exact draw2_ok h' hn h0 h1 k
/-- what drawing promises, as a call -/
def DrawOk (call : List Slot → O R) : Prop := ∀ (n : Nat) (p : D) (m : Int), IsPen n p → n < 1000000000 → 0 < m → m.natAbs.log2 < 9000 → ∃ z p', call [.bor p, .val (.int m)] = .ok (.val (.int z)) [.bor p', .non] ∧ 0 ≤ z ∧ z < m ∧ IsPen (n + 1) p'
theorem draw_ok {C : Cc} : DrawOk (bodyRun ⟨2, 5, drawF⟩ C) := by
  intro n p m hp hn h0 h1
  rw [bodyRun_eq]
  show ∃ z p', finO 2 (drawF C [.bor p, .val (.int m), .non, .non, .non]) = _ ∧ _
  refine draw_run (P := fun o => ∃ z p', finO 2 o = .ok (.val (.int z)) [.bor p', .non] ∧ 0 ≤ z ∧ z < m ∧ IsPen (n + 1) p') hp hn h0 h1 fun z p s2 s3 s4 z0 z1 hp => ⟨z, p, by simp, z0, z1, hp⟩
/-! ### a pick -/
theorem gIdx_pick {ds : List D} {z : Int} (h0 : 0 ≤ z) (h1 : z < ds.length) : ∃ d, gIdx (.lst ds) (.int z) = some (.val d) ∧ d ∈ ds := by
  obtain ⟨x, e1, e2⟩ := atI_nat h0 h1
  exact ⟨x, by rw [gIdx_lst, e1]; rfl, List.mem_of_getElem? e2⟩
theorem log2_small {m : Int} (h0 : 0 < m) (h : m < 2 ^ 64) : m.natAbs.log2 < 9000 := by
  have : m.natAbs.log2 < 64 := by
    rw [Nat.log2_lt (by omega)]
    omega
  omega
def pickF (i : Nat) : Sg := (sRet (sOp2 gIdx (sVar 1) (sCall i (sKCons 2 (sVar 0) (sKCons 0 (sBi gLen (sRCons (sVar 1) sRNil)) sKNil)))))
def PickOk (call : List Slot → O R) : Prop := ∀ (n : Nat) (p : D) (ds : List D), IsPen n p → n < 1000000000 → ds ≠ [] → ds.length < 1000000 → ∃ d p', call [.bor p, .val (.lst ds)] = .ok (.val d) [.bor p', .non] ∧ d ∈ ds ∧ IsPen (n + 1) p'
theorem pick_ok {C : Cc} {i : Nat} (hd : DrawOk (C.call i)) : PickOk (bodyRun ⟨2, 2, pickF i⟩ C) := by
  intro n p ds hp hn hne hl
  have hpos : 0 < ds.length := List.length_pos_iff.mpr hne
  obtain ⟨z, p', e, z0, z1, hp'⟩ := hd n p ds.length hp hn (by omega) (log2_small (by omega) (by omega))
  obtain ⟨d, e2, hm⟩ := gIdx_pick z0 z1
  refine ⟨d, p', ?_, hm, hp'⟩
  rw [bodyRun_eq]
  simp only [gIdx_lst] at e2
  simp [pickF, e, e2]
end Kn

/-! Kn20 -/
/-! Kn part 20: texts as lists of signs. -/
namespace Kn
open PySem PySem.Spec PyProof.Rows L2

def mk (l : List Nat) : Str := ⟨l.toArray⟩
@[simp] theorem mk_cps (l : List Nat) : (mk l).cps.toList = l := rfl
@[simp] theorem mk_len (l : List Nat) : (mk l).length = l.length := by
  show l.toArray.size = _
  exact List.size_toArray
theorem mk_self (s : Str) : mk s.cps.toList = s := by
  obtain ⟨a⟩ := s
  show (⟨a.toList.toArray⟩ : Str) = ⟨a⟩
  rw [Array.toArray_toList]
theorem str_mk (s : Str) : ∃ l, s = mk l := ⟨_, (mk_self s).symm⟩
theorem mk_inj {a b : List Nat} (h : mk a = mk b) : a = b := by
  have := congrArg (fun s : Str => s.cps.toList) h
  exact this
theorem mk_eq {a b : List Nat} : (mk a = mk b) = (a = b) := propext ⟨mk_inj, fun h => by rw [h]⟩
theorem mk_append (a b : List Nat) : mk a ++ mk b = mk (a ++ b) := by
  show (⟨a.toArray ++ b.toArray⟩ : Str) = ⟨(a ++ b).toArray⟩
  rw [List.append_toArray]
theorem gAdd_mk {a b : List Nat} (h : a.length + b.length ≤ 16777216) : gAdd (.str (mk a)) (.str (mk b)) = some (.val (.str (mk (a ++ b)))) := by
  show (if (mk a).length + (mk b).length ≤ 16777216 then some (R.val (.str (mk a ++ mk b))) else none) = _
  rw [mk_len, mk_len, if_pos h, mk_append]
theorem gLen_mk {a : List Nat} (h : a.length ≤ 16777216) : gLen [.str (mk a)] = some (.val (.int a.length)) := by
  have : lenD (.str (mk a)) = some (a.length : Int) := by
    unfold lenD
    simp [h]
  show (lenD (.str (mk a))).map _ = _
  rw [this]
  rfl
theorem gIdx_mk {pre r : List Nat} {c : Nat} (h : (pre ++ c :: r).length ≤ 16777216) : gIdx (.str (mk (pre ++ c :: r))) (.int pre.length) = some (.val (.str (mk [c]))) := by
  show (if (mk (pre ++ c :: r)).length ≤ 16777216 then (atI (mk (pre ++ c :: r)).cps.toList pre.length).map _ else none) = _
  rw [mk_len, if_pos h, mk_cps]
  have : atI (pre ++ c :: r) (pre.length : Int) = some c := by
    unfold atI ixN
    rw [if_pos (by omega), if_pos (by rw [List.length_append, List.length_cons]; omega)]
    simp
  rw [this]
  rfl
theorem gIdx_at {l : List Nat} {j c : Nat} (h : l.length ≤ 16777216) (e : l[j]? = some c) : gIdx (.str (mk l)) (.int (j : Int)) = some (.val (.str (mk [c]))) := by
  show (if (mk l).length ≤ 16777216 then (atI (mk l).cps.toList (j : Int)).map _ else none) = _
  rw [mk_len, if_pos h, mk_cps]
  have hj := (List.getElem?_eq_some_iff.mp e).1
  have : atI l (j : Int) = some c := by
    unfold atI ixN
    rw [if_pos (by omega), if_pos (by omega)]
    simpa using e
  rw [this]
  rfl
theorem takeWhile_mid {α : Type} (p : α → Bool) : ∀ (mid : List α) (r : List α), (∀ x ∈ mid, p x = true) → (∀ c r', r = c :: r' → p c = false) → (mid ++ r).takeWhile p = mid
  | [], [], _, _ => rfl
  | [], c :: r, _, h => by simp [h c r rfl]
  | x :: mid, r, h, h2 => by
    rw [List.cons_append, List.takeWhile_cons, h x List.mem_cons_self, if_pos rfl, takeWhile_mid p mid r (fun y hy => h y (List.mem_cons_of_mem _ hy)) h2]
theorem gIn_one {c : Nat} {z : Str} : gIn (.str (mk [c])) (.str z) = some (.val (.bl (decide (c ∈ z.cps.toList)))) := by
  show (some (inS (mk [c]) z)).map _ = _
  unfold inS
  have := PySem.StrLaws.found_one z c
  show some (R.val (.bl (!(Builtin.Str.occurrences z ⟨#[c]⟩ 0 z.length 1).isEmpty))) = _
  rw [this]
theorem gNotIn_one {c : Nat} {z : Str} : gNotIn (.str (mk [c])) (.str z) = some (.val (.bl (!decide (c ∈ z.cps.toList)))) := by
  show (some (inS (mk [c]) z)).map _ = _
  unfold inS
  have := PySem.StrLaws.found_one z c
  show some (R.val (.bl (!(!(Builtin.Str.occurrences z ⟨#[c]⟩ 0 z.length 1).isEmpty)))) = _
  rw [this]
theorem cut_list {α : Type} (l : List α) (a b : Nat) (h : a ≤ b) : (l.drop (min a l.length)).take (min b l.length - min a l.length) = (l.drop a).take (b - a) := by
  by_cases h1 : a ≤ l.length
  · rw [Nat.min_eq_left h1]
    by_cases h2 : b ≤ l.length
    · rw [Nat.min_eq_left h2]
    · rw [Nat.min_eq_right (by omega)]
      rw [List.take_of_length_le (by rw [List.length_drop]; omega), List.take_of_length_le (by rw [List.length_drop]; omega)]
  · rw [Nat.min_eq_right (by omega), Nat.min_eq_right (by omega), List.drop_eq_nil_of_le (Nat.le_refl _), List.drop_eq_nil_of_le (by omega)]
    simp
theorem gSl_mk {l : List Nat} {a b : Nat} (hl : l.length ≤ 16777216) (h : a ≤ b) : gSl (.str (mk l)) (some (a : Int)) (some (b : Int)) = some (.val (.str (mk ((l.drop a).take (b - a))))) := by
  show (if (mk l).length ≤ 16777216 then some (R.val (.str (cutS (mk l) (some (a : Int)) (some (b : Int))))) else none) = _
  rw [mk_len, if_pos hl]
  unfold cutS
  rw [mk_len, mk_cps, HT.sIx_nat, HT.sIx_nat, cut_list l a b h]
  rfl
theorem gSl_to {l : List Nat} {b : Nat} (hl : l.length ≤ 16777216) : gSl (.str (mk l)) none (some (b : Int)) = some (.val (.str (mk (l.take b)))) := by
  show (if (mk l).length ≤ 16777216 then some (R.val (.str (cutS (mk l) none (some (b : Int))))) else none) = _
  rw [mk_len, if_pos hl]
  unfold cutS
  rw [mk_len, mk_cps, HT.sIx_nat, HT.sIx_none, Nat.sub_zero, List.drop_zero]
  have : l.take (min b l.length) = l.take b := by
    by_cases h : b ≤ l.length
    · rw [Nat.min_eq_left h]
    · rw [Nat.min_eq_right (by omega), List.take_of_length_le (Nat.le_refl _), List.take_of_length_le (by omega)]
  rw [this]
  rfl
theorem gSl_from {l : List Nat} {a : Nat} (hl : l.length ≤ 16777216) : gSl (.str (mk l)) (some (a : Int)) none = some (.val (.str (mk (l.drop a)))) := by
  show (if (mk l).length ≤ 16777216 then some (R.val (.str (cutS (mk l) (some (a : Int)) none))) else none) = _
  rw [mk_len, if_pos hl]
  unfold cutS
  rw [mk_len, mk_cps, HT.sIx_nat, HT.sIx_none]
  have : (l.drop (min a l.length)).take (l.length - min a l.length) = l.drop a := by
    by_cases h : a ≤ l.length
    · rw [Nat.min_eq_left h, List.take_of_length_le (by rw [List.length_drop]; omega)]
    · rw [Nat.min_eq_right (by omega), List.drop_eq_nil_of_le (Nat.le_refl _), List.drop_eq_nil_of_le (by omega)]
      simp
  rw [this]
  rfl
/-- pieces between the signs c -/
def glue (c : Nat) : List (List Nat) → List Nat
  | [] => []
  | [l] => l
  | l :: m :: ls => l ++ c :: glue c (m :: ls)
theorem join_glue (c : Nat) : ∀ ls : List (List Nat), Str.join (mk [c]) (ls.map mk) = mk (glue c ls)
  | [] => rfl
  | [l] => rfl
  | l :: m :: ls => by
    have ih := join_glue c (m :: ls)
    show mk l ++ mk [c] ++ Str.join (mk [c]) ((m :: ls).map mk) = _
    rw [ih, mk_append, mk_append]
    show mk _ = mk (l ++ c :: glue c (m :: ls))
    rw [List.append_assoc]
    rfl
theorem split_mk (cs : List Nat) (c : Nat) : ∃ ls : List (List Nat), Txt.split (mk cs) (mk [c]) = ls.map mk ∧ glue c ls = cs ∧ ls ≠ [] ∧ ∀ l ∈ ls, c ∉ l := by
  refine ⟨(Txt.split (mk cs) (mk [c])).map fun s => s.cps.toList, ?_, ?_, ?_, ?_⟩
  · rw [List.map_map]
    have : (mk ∘ fun s : Str => s.cps.toList) = id := by funext s; exact mk_self s
    rw [this, List.map_id]
  · have h := PySem.StrLaws.join_split (mk cs) (mk [c])
    apply mk_inj
    rw [← join_glue, List.map_map]
    have : (mk ∘ fun s : Str => s.cps.toList) = id := by funext s; exact mk_self s
    rw [this, List.map_id]
    exact h
  · intro e
    rw [List.map_eq_nil_iff] at e
    unfold Txt.split at e
    split at e
    · cases e
    · split at e
      · cases e
      · rw [PySem.StrLaws.partsBetween_eq] at e
        obtain ⟨p, r, q⟩ := PySem.StrLaws.partsFrom_ne (mk cs) (mk [c]).length 0 (Builtin.Str.occurrences (mk cs) (mk [c]) 0 (mk cs).length ((mk cs).length + 1))
        rw [q] at e
        cases e
  · intro l hl
    rw [List.mem_map] at hl
    obtain ⟨p, hp, rfl⟩ := hl
    exact PySem.StrLaws.split_free (mk cs) c p hp
end Kn

/-! Kn21 -/
set_option maxHeartbeats 4000000
/-! Kn part 21: making a pen, shuffling, ratios. -/
namespace Kn
open PySem PySem.Spec PyProof.Rows L2

def penF : Sg := (sSeq (sSet 1 (sC (.int 0)))
  (sSeq (sFor (iDat (sVar 0)) (tgN 2) (sSet 1 (sOp2 gMod (sBi gInt (sRCons (sOp2 gAdd (sOp2 gMul (sVar 1) (sC (.int 59))) (sVar 2)) sRNil)) (sC (.int 1000000009)))))
  (sRet (sDisp [.inr "cells", .inr "at", .inr "digits", .inr "count", .inr "fold"] (sCons (sBi gList (sRCons (sVar 0) sRNil)) (sCons (sC (.int 0)) (sCons (sC (.int 0)) (sCons (sC (.int 0)) (sCons (sVar 1) sNil)))))))))
theorem pen_ok {C : Cc} {ns : List Int} (h : ns.length ≤ 63) : ∃ p, bodyRun ⟨1, 3, penF⟩ C [.val (script ns)] = .ok (.fr p) [.non] ∧ IsPen 0 p := by
  rw [bodyRun_eq]
  have hgm := gMod_pos
  simp [penF, script]
  refine forL_ind (P := fun o => ∃ p, finO 1 (o.bind _) = .ok (.fr p) [.non] ∧ IsPen 0 p) (fun ds S => ∃ (f : Int) (s2 : Slot) (ms : List Int), 0 ≤ f ∧ f < 2147483647 ∧ free s2 = true ∧ ds = ms.map .int ∧ S = [.val (.scr (ns.map .int)), .val (.int f), s2]) ⟨0, .non, ns, by decide, by decide, rfl, rfl, rfl⟩ ?_ ?_
  · rintro d ds S ⟨f, s2, ms, f0, f1, hs, hd, rfl⟩
    cases ms with
    | nil => cases hd
    | cons m ms =>
      cases hd
      have hm2 : gMul (.int f) (.int 59) = some (.val (.int (f * 59))) := gMul_small _ _ (.inr (by decide))
      refine ⟨[.val (.scr (ns.map .int)), .val (.int f), .val (.int m)], by simp [hs], .inl ⟨[.val (.scr (ns.map .int)), .val (.int ((f * 59 + m) % 1000000009)), .val (.int m)], .inl (by simp [hm2, gMod_pos _ 1000000009 (by decide)]), (f * 59 + m) % 1000000009, _, ms, Int.emod_nonneg _ (by decide), by have := Int.emod_lt_of_pos (f * 59 + m) (b := 1000000009) (by decide); omega, rfl, rfl, rfl⟩⟩
  · rintro S ⟨f, s2, ms, f0, f1, hs, hd, rfl⟩
    have hk : ([.inr "cells", .inr "at", .inr "digits", .inr "count", .inr "fold"] : List Key) = penKs := rfl
    refine ⟨penD (ns.map .int) 0 0 0 f, ?_, ns, 0, 0, 0, f, rfl, ⟨by decide, by decide, by decide, by decide, f0, f1, h⟩⟩
    simp [hk, penKs_sz]
    rfl
/-! ### shuffling -/
def shufF (i : Nat) : Sg := (sSeq (sPar [3, 4] (sKCons 1 (sBi gList (sRCons (sVar 1) sRNil)) (sKCons 1 (sLst sNil) sKNil)))
  (sSeq (sFor (iRg (sRCons (sBi gLen (sRCons (sVar 1) sRNil)) sRNil)) (tgN 2) (sDrop (sApp 4 (sPopAt 3 (sCall i (sKCons 2 (sVar 0) (sKCons 0 (sBi gLen (sRCons (sVar 3) sRNil)) sKNil)))))))
  (sRet (sVar 4))))
def ShufOk (call : List Slot → O R) : Prop := ∀ (n : Nat) (p : D) (ds : List D), IsPen n p → n < 900000000 → ds.length < 1000000 → ∃ es p', call [.bor p, .val (.lst ds)] = .ok (.fr (.lst es)) [.bor p', .non] ∧ (∀ e ∈ es, e ∈ ds) ∧ es.length = ds.length ∧ IsPen (n + ds.length) p'
theorem seqIx {j : Int} {n : Nat} (h0 : 0 ≤ j) (h1 : j < n) : seqIndex? j n = some j.toNat := by
  unfold seqIndex?
  have : ¬ j < 0 := by omega
  simp [this, h0, h1]
theorem shuf_ok {C : Cc} {i : Nat} (hd : DrawOk (C.call i)) : ShufOk (bodyRun ⟨2, 5, shufF i⟩ C) := by
  intro n p ds hp hn hl
  rw [bodyRun_eq]
  have hrg : rgOk (ds.length : Int) := rgOk_nat (by omega)
  simp [shufF, hrg]
  have key : ∀ (m : Nat) (ms : List D) (rem fnd : List D) (q : D) (s2 : Slot), ms.length = m → (∃ k : Nat, ms = (List.range' k m).map (fun (k : Nat) => D.int (0 + (k : Int)))) → rem.length = m → free s2 = true → (∀ e ∈ rem, e ∈ ds) → (∀ e ∈ fnd, e ∈ ds) → fnd.length + m = ds.length → IsPen (n + fnd.length) q →
      ∃ es p' s2', forL C (tgN 2) (sDrop (sApp 4 (sPopAt 3 (sCall i (sKCons 2 (sVar 0) (sKCons 0 (sBi gLen (sRCons (sVar 3) sRNil)) sKNil)))))) ms [.bor q, .val (.lst ds), s2, .own (.lst rem), .own (.lst fnd)] = .nx [.bor p', .val (.lst ds), s2', .own (.lst []), .own (.lst es)] ∧ (∀ e ∈ es, e ∈ ds) ∧ es.length = ds.length ∧ IsPen (n + ds.length) p' := by
    intro m
    induction m with
    | zero =>
      intro ms rem fnd q s2 h1 _ h2 _ h3 h4 h5 h6
      have e1 := List.length_eq_zero_iff.mp h1
      have e2 := List.length_eq_zero_iff.mp h2
      subst e1
      subst e2
      exact ⟨fnd, q, s2, rfl, h4, by omega, by rw [← h5]; exact h6⟩
    | succ m ih =>
      intro ms rem fnd q s2 h1 hk h2 hs h3 h4 h5 h6
      obtain ⟨k, hk⟩ := hk
      rw [List.range'_succ, List.map_cons] at hk
      subst hk
      obtain ⟨z, q', e, z0, z1, hq'⟩ := hd (n + fnd.length) q rem.length h6 (by omega) (by omega) (log2_small (by omega) (by omega))
      have hz : z.toNat < rem.length := by omega
      have eg : rem[z.toNat]? = some rem[z.toNat] := List.getElem?_eq_getElem hz
      have hm : rem[z.toNat] ∈ rem := List.getElem_mem hz
      generalize rem[z.toNat] = y at *
      obtain ⟨es, p', s2', f1, f2, f3, f4⟩ := ih ((List.range' (k + 1) m).map (fun (k : Nat) => D.int (0 + (k : Int)))) (rem.eraseIdx z.toNat) (fnd ++ [y]) q' (.val (.int (0 + (k : Int)))) (by simp) ⟨k + 1, rfl⟩ (by rw [List.length_eraseIdx_of_lt hz]; omega) rfl (fun e he => h3 e (List.mem_of_mem_eraseIdx he)) (fun e he => by
        rcases List.mem_append.mp he with w | w
        · exact h4 e w
        · rw [List.mem_singleton.mp w]; exact h3 y hm) (by simp; omega) (by rw [List.length_append]; exact hq')
      refine ⟨es, p', s2', ?_, f2, f3, f4⟩
      rw [← f1]
      have hna : z.natAbs < 9223372036854775808 := by omega
      have hfl : fnd.length < 16777216 := by omega
      conv => lhs; unfold forL
      simp [hs, e, hna, seqIx z0 z1, eg, hfl]
  obtain ⟨es, p', s2', e, h1, h2, h3⟩ := key ds.length (rangeD 0 ds.length) ds [] p .non (by simp [rangeD]) ⟨0, by unfold rangeD; rw [List.range_eq_range']⟩ rfl rfl (fun _ h => h) (by simp) (by simp) hp
  refine ⟨es, p', ?_, h1, h2, h3⟩
  rw [e]
  simp
end Kn

/-! Kn22 -/
/-! Kn part 22: small ratios. -/
namespace Kn
open PySem PySem.Spec PyProof.Rows L2

def gcdF : Sg := (sSeq (sPar [0, 1] (sKCons 1 (sBi gAbs (sRCons (sVar 0) sRNil)) (sKCons 1 (sBi gAbs (sRCons (sVar 1) sRNil)) sKNil)))
  (sSeq (sWh (sB (sOp2 gGt (sVar 1) (sC (.int 0)))) (sPar [0, 1] (sKCons 1 (sVar 1) (sKCons 1 (sOp2 gMod (sBi gInt (sRCons (sVar 0) sRNil)) (sVar 1)) sKNil))))
  (sRet (sVar 0))))
def GcdOk (call : List Slot → O R) : Prop := ∀ a b : Int, b.natAbs < 100000000 → call [.val (.int a), .val (.int b)] = .ok (.val (.int (Int.gcd a b : Int))) [.non, .non]
theorem absI (a : Int) : (if a < 0 then -a else a) = (a.natAbs : Int) := by
  split <;> omega
theorem gcd_ok {C : Cc} (hf : 100000000 ≤ C.fuel) : GcdOk (bodyRun ⟨2, 2, gcdF⟩ C) := by
  intro a b hb
  rw [bodyRun_eq]
  simp [gcdF, absI]
  refine whL_ind (P := fun o => finO 2 (o.bind _) = _) (fun m S => ∃ x y : Nat, S = [.val (.int (x : Int)), .val (.int (y : Int))] ∧ Nat.gcd x y = Int.gcd a b ∧ m = y) (n := b.natAbs) (by omega) ⟨a.natAbs, b.natAbs, rfl, rfl, rfl⟩ ?_
  rintro m S ⟨x, y, rfl, hg, rfl⟩
  by_cases hy : 0 < m
  · right
    have hy' : (0 : Int) < (m : Int) := by omega
    refine ⟨[.val (.int (x : Int)), .val (.int (m : Int))], by simp [hy], .inl ⟨x % m, [.val (.int (m : Int)), .val (.int ((x % m : Nat) : Int))], .inl (by simp [gMod_pos _ _ hy']), Nat.mod_lt _ hy, m, x % m, rfl, ?_, rfl⟩⟩
    rw [← hg, Nat.gcd_comm m, ← Nat.gcd_rec, Nat.gcd_comm]
  · left
    have : m = 0 := by omega
    subst this
    refine ⟨[.val (.int (x : Int)), .val (.int ((0 : Nat) : Int))], by simp, ?_⟩
    rw [Nat.gcd_zero_right] at hg
    rw [← hg]
    simp
def lowF (i : Nat) : Sg := (sSeq (sSet 2 (sCall i (sKCons 0 (sVar 0) (sKCons 0 (sVar 1) sKNil))))
  (sRet (sTup (sCons (sOp2 gDiv (sVar 0) (sVar 2)) (sCons (sOp2 gDiv (sVar 1) (sVar 2)) sNil)))))
def LowOk (call : List Slot → O R) : Prop := ∀ a b : Int, 0 < b → b < 100000000 → call [.val (.int a), .val (.int b)] = .ok (.val (.tup [.int (a / (Int.gcd a b : Int)), .int (b / (Int.gcd a b : Int))])) [.non, .non]
theorem low_ok {C : Cc} {i : Nat} (hg : GcdOk (C.call i)) : LowOk (bodyRun ⟨2, 3, lowF i⟩ C) := by
  intro a b h0 h1
  rw [bodyRun_eq]
  have e := hg a b (by omega)
  have hp : 0 < Int.gcd a b := Int.gcd_pos_of_ne_zero_right _ (by omega)
  have hle : Int.gcd a b ≤ b.natAbs := Nat.le_of_dvd (by omega) (Nat.gcd_dvd_right _ _)
  generalize Int.gcd a b = g at *
  have hd := fun x : Int => gDiv_pos x (g : Int) (by omega) (log2_small (by omega) (by omega))
  simp [lowF, e, hd]
/-- a small ratio -/
def IsRat (N : Nat) (d : D) : Prop := ∃ t b : Int, d = .tup [.int t, .int b] ∧ t.natAbs ≤ N ∧ 1 ≤ b ∧ b ≤ N
theorem IsRat.le {N M : Nat} {d : D} (h : IsRat N d) (l : N ≤ M) : IsRat M d := by
  obtain ⟨t, b, e, h1, h2, h3⟩ := h
  exact ⟨t, b, e, by omega, h2, by omega⟩
def addF (i : Nat) : Sg := (sRet (sCall i (sKCons 0 (sOp2 gAdd (sOp2 gMul (sOp2 gIdx (sVar 0) (sC (.int 0))) (sOp2 gIdx (sVar 1) (sC (.int 1)))) (sOp2 gMul (sOp2 gIdx (sVar 1) (sC (.int 0))) (sOp2 gIdx (sVar 0) (sC (.int 1))))) (sKCons 0 (sOp2 gMul (sOp2 gIdx (sVar 0) (sC (.int 1))) (sOp2 gIdx (sVar 1) (sC (.int 1)))) sKNil))))
def AddOk (call : List Slot → O R) : Prop := ∀ (N M : Nat) (a b : D), IsRat N a → IsRat M b → N ≤ 1000 → M ≤ 1000 → ∃ c, call [.val a, .val b] = .ok (.val c) [.non, .non] ∧ IsRat (2 * N * M) c
theorem atI_0 {α : Type} (x : α) (l : List α) : atI (x :: l) 0 = some x := by
  unfold atI ixN
  simp
theorem atI_1 {α : Type} (x y : α) (l : List α) : atI (x :: y :: l) 1 = some y := by
  unfold atI ixN
  rw [if_pos (by decide), if_pos (by simp; omega)]
  rfl
theorem natAbs_ediv_le (a : Int) {g : Int} (h : 0 < g) : (a / g).natAbs ≤ a.natAbs := by
  rcases Int.le_total 0 a with q | q
  · have h1 : 0 ≤ a / g := Int.ediv_nonneg q (by omega)
    have h2 : a / g ≤ a := Int.ediv_le_self _ q
    omega
  · have h1 : a / g ≤ 0 := Int.ediv_nonpos_of_nonpos_of_neg q h
    have h2 : a ≤ a / g := by
      rw [Int.le_ediv_iff_mul_le h]
      have : a * g ≤ a * 1 := Int.mul_le_mul_of_nonpos_left q (by omega)
      omega
    omega
theorem add_ok {C : Cc} {i : Nat} (hl : LowOk (C.call i)) : AddOk (bodyRun ⟨2, 2, addF i⟩ C) := by
  rintro N M _ _ ⟨t, b, rfl, h1, h2, h3⟩ ⟨u, c, rfl, h4, h5, h6⟩ hN hM
  rw [bodyRun_eq]
  have m1 := gMul_small t c (.inr (by omega))
  have m2 := gMul_small u b (.inr (by omega))
  have m3 := gMul_small b c (.inr (by omega))
  have p0 : 0 < b * c := Int.mul_pos (by omega) (by omega)
  have p1 : b * c ≤ (N : Int) * (M : Int) := Int.mul_le_mul h3 h6 (by omega) (by omega)
  have pNM : (N : Int) * (M : Int) ≤ 1000 * 1000 := Int.mul_le_mul (by omega) (by omega) (by omega) (by omega)
  have e := hl (t * c + u * b) (b * c) p0 (by omega)
  have hp : 0 < Int.gcd (t * c + u * b) (b * c) := Int.gcd_pos_of_ne_zero_right _ (by omega)
  have hdv : ((Int.gcd (t * c + u * b) (b * c) : Nat) : Int) ∣ b * c := Int.gcd_dvd_right _ _
  have n1 : (t * c).natAbs ≤ N * M := by rw [Int.natAbs_mul]; exact Nat.mul_le_mul h1 (by omega)
  have n2 : (u * b).natAbs ≤ N * M := by rw [Int.natAbs_mul, Nat.mul_comm]; exact Nat.mul_le_mul (by omega) h4
  have n3 : (t * c + u * b).natAbs ≤ 2 * N * M := by
    have : 2 * N * M = N * M + N * M := by rw [Nat.mul_assoc]; omega
    omega
  generalize hG : Int.gcd (t * c + u * b) (b * c) = g at *
  refine ⟨_, ?_, (t * c + u * b) / (g : Int), b * c / (g : Int), rfl, Nat.le_trans (natAbs_ediv_le _ (by omega)) n3, ?_, ?_⟩
  · simp [addF, atI_0, atI_1, m1, m2, m3, e]
  · obtain ⟨k, hk⟩ := hdv
    rw [hk, Int.mul_ediv_cancel_left _ (by omega)]
    rw [hk] at p0
    rcases Int.lt_or_le 0 k with q | q
    · omega
    · have : (g : Int) * k ≤ 0 := Int.mul_nonpos_of_nonneg_of_nonpos (by omega) q
      omega
  · have h7 : b * c / (g : Int) ≤ b * c := Int.ediv_le_self _ (by omega)
    have h8 : ((2 * N * M : Nat) : Int) = (N : Int) * M + (N : Int) * M := by push_cast; rw [Int.mul_assoc]; omega
    have h9 : 0 ≤ (N : Int) * M := Int.mul_nonneg (by omega) (by omega)
    omega
end Kn

/-! Kn23 -/
/-! Kn part 23: calls that hand on a pen, or None. -/
namespace Kn
open PySem PySem.Spec PyProof.Rows L2

inductive Sm2 : Slot → Slot → Prop
  | non : Sm2 (.val .non) (.val .non)
  | bor (p q : D) : Sm2 (.bor p) (.bor q)
theorem Sm2.refl {s t : Slot} (h : Sm2 s t) : Sm2 s s := by
  cases h with
  | non => exact .non
  | bor p q => exact .bor p p
theorem Sm2.trans {s t u : Slot} (h : Sm2 s t) (h' : Sm2 t u) : Sm2 s u := by
  cases h with
  | non => exact h'
  | bor p q => cases h' with
    | bor _ r => exact .bor p r
theorem argSlots_vals {S : Env} : ∀ ds : List D, argSlots S (ds.map R.val) = some (ds.map Slot.val)
  | [] => rfl
  | d :: ds => by
    rw [List.map_cons, List.map_cons, argSlots_cons, argSlot_val, argSlots_vals ds]
    rfl
theorem ndSl_vals : ∀ ds : List D, ndSl (ds.map R.val) = true
  | [] => rfl
  | d :: ds => by rw [List.map_cons, ndSl_val]; exact ndSl_vals ds
theorem any_vals (i : Nat) : ∀ ds : List D, (ds.map R.val).any (isSl i) = false
  | [] => rfl
  | d :: ds => by rw [List.map_cons, List.any_cons, isSl_val, any_vals i ds]; rfl
theorem okBack_vals : ∀ (ds : List D) (ss : List Slot), ss.length = ds.length → okBack (ds.map Slot.val) ss = true
  | [], [], _ => rfl
  | [], _ :: _, h => by cases h
  | _ :: _, [], h => by cases h
  | d :: ds, s :: ss, h => by rw [List.map_cons, okBack_val]; exact okBack_vals ds ss (by simpa using h)
theorem newAt_vals (i : Nat) : ∀ (ds : List D) (ss : List Slot), newAt (ds.map R.val) ss i = none
  | [], ss => newAt_nil i ss
  | d :: ds, [] => rfl
  | d :: ds, s :: ss => by rw [List.map_cons, newAt_val]; exact newAt_vals i ds ss
theorem mapIdx_id {S : List Slot} {f : Nat → Slot → Slot} (h : ∀ i s, f i s = s) : S.mapIdx f = S := by
  apply List.ext_getElem?
  intro i
  rw [List.getElem?_mapIdx]
  cases S[i]? with
  | none => rfl
  | some s => rw [Option.map_some, h]
/-- f(pen, ..): pen is lent on, or None; the other arguments are data -/
theorem callPen {C : Cc} {i : Nat} {g : Srl} {ps ps1 ps2 : Slot} {S S1 : Env} {ds : List D} {r : R} {ss : List Slot} (h1 : Sm2 ps ps1) (h2 : Sm2 ps1 ps2) (hg : g C (ps :: S) = .ok (ds.map R.val) (ps1 :: S1))
    (hc : C.call i (ps1 :: ds.map Slot.val) = .ok r (keepBor ps2 :: ss)) (hs : ss.length = ds.length) (hr : (∃ d, r = .val d) ∨ ∃ d, r = .fr d) : sCall i (sKCons 2 (sVar 0) g) C (ps :: S) = .ok r (ps2 :: S1) := by
  have hob : okBack (ds.map Slot.val) ss = true := okBack_vals ds ss hs
  cases h1 with
  | non =>
    cases h2
    have hc' : C.call i (.val .non :: ds.map Slot.val) = .ok r (.non :: ss) := hc
    have pb : ∀ S : Env, putBack (.val .non :: ds.map R.val) (.non :: ss) S = S := fun S => mapIdx_id fun j s => by rw [newAt_val, newAt_vals]
    simp only [x_sCall, x_sKCons, x_sVar, List.getElem?_cons_zero, bind_ok, adj_2, hg, argSlots_cons, argSlot_val, Option.bind_some, argSlots_vals, Option.map_some, ndSl_val, ndSl_vals, if_true, hc', okBack_val, hob]
    rcases hr with ⟨d, rfl⟩ | ⟨d, rfl⟩
    · simp only [pb]
    · simp only [pb]
  | bor p q =>
    cases h2 with
    | bor _ q2 =>
      have hc' : C.call i (.bor q :: ds.map Slot.val) = .ok r (.bor q2 :: ss) := hc
      have pb : ∀ S : Env, putBack (.sl 0 :: ds.map R.val) (.bor q2 :: ss) (.bor q :: S) = .bor q2 :: S := fun S => by
        unfold putBack
        rw [List.mapIdx_cons, newAt_sl, if_pos rfl]
        congr 1
        exact mapIdx_id fun j s => by
          rw [newAt_sl, if_neg (by omega), newAt_vals]
      simp only [x_sCall, x_sKCons, x_sVar, List.getElem?_cons_zero, bind_ok, adj_2, hg, argSlots_cons, argSlot_sl', Option.bind_some, argSlots_vals, Option.map_some, ndSl_sl, ndSl_vals, any_vals, Bool.not_false, Bool.and_self, if_true, hc', okBack_bor, hob]
      rcases hr with ⟨d, rfl⟩ | ⟨d, rfl⟩
      · simp only [pb]
      · simp only [pb]
end Kn

/-! K44a -/
set_option maxHeartbeats 0
namespace K44
open PySem PySem.Spec PyProof.Rows L2 Kn
def top (i : Nat) : Stmt := PySem.Challenge.pw_kneenets_k44_words_of_texts.main.body.getD i (.Pass ⟨0, 0, 0, 0⟩)
def c_DIGITS : D := (.str "0123456789")
def c_LETTERS : D := (.str "abcdefghijklmnopqrstuvwxyzABCDEFGHIJKLMNOPQRSTUVWXYZ")
def c_SIGNS : D := (.str "abcdefghijklmnopqrstuvwxyzABCDEFGHIJKLMNOPQRSTUVWXYZ0123456789_")
def c_OWN_WORDS : D := (.tup [(.str "abs"), (.str "and"), (.str "claim"), (.str "clip"), (.str "from"), (.str "in"), (.str "knee"), (.str "max"), (.str "min"), (.str "net"), (.str "no"), (.str "not"), (.str "or"), (.str "out"), (.str "to"), (.str "yes")])
def c_TWO_SIGNS : D := (.tup [(.str "<="), (.str ">="), (.str "!=")])
def c_ONE_SIGNS : D := (.str "{}()[];:,=<>+-*/")
def c_LONGEST_WORD : D := (.int 12)
def D_row_end : Df := ⟨"row_end", "row_end", top 8, ["line", "at", "signs"], ["line", "at", "signs", "end"]⟩
def F_row_end : Sg := (sSeq (sSet 3 (sVar 1))
  (sSeq (sWh (sAndT (sB (sOp2 gLt (sVar 3) (sBi gLen (sRCons (sVar 0) sRNil)))) (sB (sOp2 gIn (sOp2 gIdx (sVar 0) (sVar 3)) (sVar 2)))) (sAug 3 gIAdd (sC (.int 1))))
  (sRet (sVar 3))))
def D_letter_word : Df := ⟨"letter_word", "letter_word", top 9, ["line", "at"], ["line", "at", "letters"]⟩
def F_letter_word : Sg := (sSeq (sSet 2 (sSl (sVar 0) (sPart (sVar 1)) (sPart (sCall 0 (sKCons 0 (sVar 0) (sKCons 0 (sVar 1) (sKCons 0 (sC c_SIGNS) sKNil)))))))
  (sSeq (sIf (sB (sOp2 gGt (sBi gLen (sRCons (sVar 2) sRNil)) (sC c_LONGEST_WORD))) (sRet (sTup (sCons (sC (.str "bad")) (sCons (sC (.str "word")) sNil)))) sSkip)
  (sRet (sTup (sCons (sIte (sB (sOp2 gIn (sVar 2) (sC c_OWN_WORDS))) (sC (.str "own")) (sC (.str "name"))) (sCons (sVar 2) sNil))))))
def D_figure_word : Df := ⟨"figure_word", "figure_word", top 10, ["line", "at"], ["line", "at", "figures"]⟩
def F_figure_word : Sg := (sSeq (sSet 2 (sSl (sVar 0) (sPart (sVar 1)) (sPart (sCall 0 (sKCons 0 (sVar 0) (sKCons 0 (sVar 1) (sKCons 0 (sC c_DIGITS) sKNil)))))))
  (sSeq (sIf (sOrT (sB (sOp2 gGt (sBi gLen (sRCons (sVar 2) sRNil)) (sC c_LONGEST_WORD))) (sAndT (sB (sOp2 gGt (sBi gLen (sRCons (sVar 2) sRNil)) (sC (.int 1)))) (sB (sOp2 gEq (sOp2 gIdx (sVar 2) (sC (.int 0))) (sC (.str "0")))))) (sRet (sTup (sCons (sC (.str "bad")) (sCons (sC (.str "number")) sNil)))) sSkip)
  (sRet (sTup (sCons (sC (.str "number")) (sCons (sVar 2) sNil))))))
def D_word_from : Df := ⟨"word_from", "word_from", top 11, ["line", "at"], ["line", "at"]⟩
def F_word_from : Sg := (sSeq (sIf (sB (sOp2 gIn (sOp2 gIdx (sVar 0) (sVar 1)) (sC c_LETTERS))) (sRet (sCall 1 (sKCons 0 (sVar 0) (sKCons 0 (sVar 1) sKNil)))) sSkip)
  (sSeq (sIf (sB (sOp2 gIn (sOp2 gIdx (sVar 0) (sVar 1)) (sC c_DIGITS))) (sRet (sCall 2 (sKCons 0 (sVar 0) (sKCons 0 (sVar 1) sKNil)))) sSkip)
  (sSeq (sIf (sB (sOp2 gIn (sSl (sVar 0) (sPart (sVar 1)) (sPart (sOp2 gAdd (sVar 1) (sC (.int 2))))) (sC c_TWO_SIGNS))) (sRet (sTup (sCons (sC (.str "sign")) (sCons (sSl (sVar 0) (sPart (sVar 1)) (sPart (sOp2 gAdd (sVar 1) (sC (.int 2))))) sNil)))) sSkip)
  (sSeq (sIf (sB (sOp2 gIn (sOp2 gIdx (sVar 0) (sVar 1)) (sC c_ONE_SIGNS))) (sRet (sTup (sCons (sC (.str "sign")) (sCons (sOp2 gIdx (sVar 0) (sVar 1)) sNil)))) sSkip)
  (sRet (sTup (sCons (sC (.str "bad")) (sCons (sC (.str "sign")) sNil))))))))
def D_words_in : Df := ⟨"words_in", "words_in", top 12, ["text"], ["text", "found", "lines", "number", "line", "at", "sort", "letters"]⟩
def F_words_in : Sg := (sSeq (sSet 1 (sLst sNil))
  (sSeq (sSet 2 (sMt gSplit (sVar 0) (sC (.str "\n"))))
  (sSeq (sFor (iRg (sRCons (sBi gLen (sRCons (sVar 2) sRNil)) sRNil)) (tgN 3) (sSeq (sSet 4 (sOp2 gIdx (sVar 2) (sVar 3)))
  (sSeq (sSet 5 (sC (.int 0)))
  (sWh (sAndT (sB (sOp2 gLt (sVar 5) (sBi gLen (sRCons (sVar 4) sRNil)))) (sB (sOp2 gNe (sOp2 gIdx (sVar 4) (sVar 5)) (sC (.str "#"))))) (sSeq (sIf (sB (sOp2 gEq (sOp2 gIdx (sVar 4) (sVar 5)) (sC (.str " ")))) (sSeq (sAug 5 gIAdd (sC (.int 1)))
  sCont) sSkip)
  (sSeq (sAsg (tgT 2 (tgsC (tgN 6) (tgsC (tgN 7) tgsN))) (sCall 3 (sKCons 0 (sVar 4) (sKCons 0 (sVar 5) sKNil))))
  (sSeq (sDrop (sApp 1 (sTup (sCons (sVar 6) (sCons (sVar 7) (sCons (sVar 3) (sCons (sVar 5) sNil)))))))
  (sSeq (sIf (sB (sOp2 gEq (sVar 6) (sC (.str "bad")))) (sRet (sVar 1)) sSkip)
  (sAug 5 gIAdd (sBi gLen (sRCons (sVar 7) sRNil)))))))))))
  (sSeq (sDrop (sApp 1 (sTup (sCons (sC (.str "end")) (sCons (sC (.str "")) (sCons (sOp2 gSub (sBi gLen (sRCons (sVar 2) sRNil)) (sC (.int 1))) (sCons (sBi gLen (sRCons (sOp2 gIdx (sVar 2) (sOp1 gNeg (sC (.int 1)))) sRNil)) sNil)))))))
  (sRet (sVar 1))))))
def D_words_of : Df := ⟨"words_of", "words_of", top 13, ["text"], ["text"]⟩
def F_words_of : Sg := (sSeq (sIf (sNotT (sB (sOp1 (gIsi ["str"]) (sVar 0)))) (sRet (sTup (sCons (sTup (sCons (sC (.str "bad")) (sCons (sC (.str "text")) (sCons (sC (.int 0)) (sCons (sC (.int 0)) sNil))))) sNil))) sSkip)
  (sRet (sBi gTuple (sRCons (sCall 4 (sKCons 0 (sVar 0) sKNil)) sRNil))))
def D__law_pen : Df := ⟨"_law_pen", "_law_pen", top 15, ["script"], ["script", "fold", "cell"]⟩
def F__law_pen : Sg := (sSeq (sSet 1 (sC (.int 0)))
  (sSeq (sFor (iDat (sVar 0)) (tgN 2) (sSet 1 (sOp2 gMod (sBi gInt (sRCons (sOp2 gAdd (sOp2 gMul (sVar 1) (sC (.int 59))) (sVar 2)) sRNil)) (sC (.int 1000000009)))))
  (sRet (sDisp [.inr "cells", .inr "at", .inr "digits", .inr "count", .inr "fold"] (sCons (sBi gList (sRCons (sVar 0) sRNil)) (sCons (sC (.int 0)) (sCons (sC (.int 0)) (sCons (sC (.int 0)) (sCons (sVar 1) sNil)))))))))
def D__law_draw : Df := ⟨"_law_draw", "_law_draw", top 16, ["pen", "many"], ["pen", "many", "blend", "cell", "digit"]⟩
def F__law_draw : Sg := (sSeq (sSub 0 (sC (.str "count")) (sOp2 gAdd (sOp2 gIdx (sVar 0) (sC (.str "count"))) (sC (.int 1))))
  (sSeq (sIf (sAndT (sB (sOp2 gEq (sOp2 gIdx (sVar 0) (sC (.str "digits"))) (sC (.int 0)))) (sB (sOp2 gLt (sOp2 gIdx (sVar 0) (sC (.str "at"))) (sBi gLen (sRCons (sOp2 gIdx (sVar 0) (sC (.str "cells"))) sRNil))))) (sSeq (sSet 3 (sOp2 gIdx (sOp2 gIdx (sVar 0) (sC (.str "cells"))) (sOp2 gIdx (sVar 0) (sC (.str "at")))))
  (sSeq (sSub 0 (sC (.str "at")) (sOp2 gAdd (sOp2 gIdx (sVar 0) (sC (.str "at"))) (sC (.int 1))))
  (sIf (sB (sOp2 gGe (sVar 3) (sOp2 gPow (sC (.int 10)) (sC (.int 18))))) (sSub 0 (sC (.str "digits")) (sOp2 gSub (sVar 3) (sOp2 gPow (sC (.int 10)) (sC (.int 18))))) (sSub 0 (sC (.str "fold")) (sOp2 gMod (sBi gInt (sRCons (sOp2 gAdd (sOp2 gMul (sOp2 gIdx (sVar 0) (sC (.str "fold"))) (sC (.int 48271))) (sVar 3)) sRNil)) (sC (.int 2147483563))))))) sSkip)
  (sSeq (sIf (sB (sOp2 gGt (sOp2 gIdx (sVar 0) (sC (.str "digits"))) (sC (.int 0)))) (sSeq (sSet 4 (sOp2 gMod (sBi gInt (sRCons (sOp2 gIdx (sVar 0) (sC (.str "digits"))) sRNil)) (sVar 1)))
  (sSeq (sSub 0 (sC (.str "digits")) (sOp2 gDiv (sOp2 gIdx (sVar 0) (sC (.str "digits"))) (sVar 1)))
  (sRet (sVar 4)))) sSkip)
  (sSeq (sSet 2 (sOp2 gAdd (sOp2 gAdd (sOp2 gIdx (sVar 0) (sC (.str "fold"))) (sOp2 gMul (sOp2 gIdx (sVar 0) (sC (.str "count"))) (sC (.int 8513)))) (sC (.int 61))))
  (sRet (sOp2 gMod (sOp2 gDiv (sBi gInt (sRCons (sOp2 gMod (sOp2 gPow (sVar 2) (sC (.int 19))) (sC (.int 2305843009213693951))) sRNil)) (sC (.int 256))) (sVar 1)))))))
def D__law_pick : Df := ⟨"_law_pick", "_law_pick", top 17, ["pen", "some"], ["pen", "some"]⟩
def F__law_pick : Sg := (sRet (sOp2 gIdx (sVar 1) (sCall 7 (sKCons 2 (sVar 0) (sKCons 0 (sBi gLen (sRCons (sVar 1) sRNil)) sKNil)))))
def D__law_shuffled : Df := ⟨"_law_shuffled", "_law_shuffled", top 18, ["pen", "some"], ["pen", "some", "lap", "remain", "found"]⟩
def F__law_shuffled : Sg := (sSeq (sPar [3, 4] (sKCons 1 (sBi gList (sRCons (sVar 1) sRNil)) (sKCons 1 (sLst sNil) sKNil)))
  (sSeq (sFor (iRg (sRCons (sBi gLen (sRCons (sVar 1) sRNil)) sRNil)) (tgN 2) (sDrop (sApp 4 (sPopAt 3 (sCall 7 (sKCons 2 (sVar 0) (sKCons 0 (sBi gLen (sRCons (sVar 3) sRNil)) sKNil)))))))
  (sRet (sVar 4))))
def D__law_is_int : Df := ⟨"_law_is_int", "_law_is_int", top 19, ["thing"], ["thing"]⟩
def F__law_is_int : Sg := (sRet (sAndV (sOp1 (gIsi ["int"]) (sVar 0)) (sNotV (sOp1 (gIsi ["bool"]) (sVar 0)))))
def D__law_gcd : Df := ⟨"_law_gcd", "_law_gcd", top 20, ["one", "other"], ["one", "other"]⟩
def F__law_gcd : Sg := (sSeq (sPar [0, 1] (sKCons 1 (sBi gAbs (sRCons (sVar 0) sRNil)) (sKCons 1 (sBi gAbs (sRCons (sVar 1) sRNil)) sKNil)))
  (sSeq (sWh (sB (sOp2 gGt (sVar 1) (sC (.int 0)))) (sPar [0, 1] (sKCons 1 (sVar 1) (sKCons 1 (sOp2 gMod (sBi gInt (sRCons (sVar 0) sRNil)) (sVar 1)) sKNil))))
  (sRet (sVar 0))))
def D__law_low : Df := ⟨"_law_low", "_law_low", top 21, ["top", "bottom"], ["top", "bottom", "part"]⟩
def F__law_low : Sg := (sSeq (sSet 2 (sCall 11 (sKCons 0 (sVar 0) (sKCons 0 (sVar 1) sKNil))))
  (sRet (sTup (sCons (sOp2 gDiv (sVar 0) (sVar 2)) (sCons (sOp2 gDiv (sVar 1) (sVar 2)) sNil)))))
def D__law_add : Df := ⟨"_law_add", "_law_add", top 22, ["one", "other"], ["one", "other"]⟩
def F__law_add : Sg := (sRet (sCall 12 (sKCons 0 (sOp2 gAdd (sOp2 gMul (sOp2 gIdx (sVar 0) (sC (.int 0))) (sOp2 gIdx (sVar 1) (sC (.int 1)))) (sOp2 gMul (sOp2 gIdx (sVar 1) (sC (.int 0))) (sOp2 gIdx (sVar 0) (sC (.int 1))))) (sKCons 0 (sOp2 gMul (sOp2 gIdx (sVar 0) (sC (.int 1))) (sOp2 gIdx (sVar 1) (sC (.int 1)))) sKNil))))
def D__law_small_ratio : Df := ⟨"_law_small_ratio", "_law_small_ratio", top 23, ["pen"], ["pen"]⟩
def F__law_small_ratio : Sg := (sRet (sCall 8 (sKCons 2 (sVar 0) (sKCons 0 (sLst (sCons (sTup (sCons (sC (.int 0)) (sCons (sC (.int 1)) sNil))) (sCons (sTup (sCons (sC (.int 1)) (sCons (sC (.int 1)) sNil))) (sCons (sTup (sCons (sC (.int 2)) (sCons (sC (.int 1)) sNil))) (sCons (sTup (sCons (sC (.int 1)) (sCons (sC (.int 2)) sNil))) (sCons (sTup (sCons (sC (.int 3)) (sCons (sC (.int 1)) sNil))) (sCons (sTup (sCons (sC (.int 1)) (sCons (sC (.int 3)) sNil))) (sCons (sTup (sCons (sC (.int 3)) (sCons (sC (.int 2)) sNil))) sNil)))))))) sKNil))))
def D__law_leaf : Df := ⟨"_law_leaf", "_law_leaf", top 24, ["pen", "names"], ["pen", "names"]⟩
def F__law_leaf : Sg := (sRet (sIte (sB (sOp2 gGt (sCall 7 (sKCons 2 (sVar 0) (sKCons 0 (sC (.int 4)) sKNil))) (sC (.int 0)))) (sTup (sCons (sC (.str "var")) (sCons (sCall 8 (sKCons 2 (sVar 0) (sKCons 0 (sVar 1) sKNil))) sNil))) (sTup (sCons (sC (.str "num")) (sCons (sCall 14 (sKCons 2 (sVar 0) sKNil)) sNil)))))
def D__law_straight : Df := ⟨"_law_straight", "_law_straight", top 25, ["pen", "names", "depth"], ["pen", "names", "depth", "way"]⟩
def F__law_straight : Sg := (sSeq (sSet 3 (sIte (sB (sOp2 gGt (sVar 2) (sC (.int 0)))) (sCall 7 (sKCons 2 (sVar 0) (sKCons 0 (sC (.int 6)) sKNil))) (sC (.int 0))))
  (sSeq (sIf (sB (sOp2 gLt (sVar 3) (sC (.int 2)))) (sRet (sCall 15 (sKCons 2 (sVar 0) (sKCons 0 (sVar 1) sKNil)))) sSkip)
  (sSeq (sIf (sB (sOp2 gLt (sVar 3) (sC (.int 4)))) (sRet (sTup (sCons (sCall 8 (sKCons 2 (sVar 0) (sKCons 0 (sLst (sCons (sC (.str "add")) (sCons (sC (.str "sub")) sNil))) sKNil))) (sCons (sCall 16 (sKCons 2 (sVar 0) (sKCons 0 (sVar 1) (sKCons 0 (sOp2 gSub (sVar 2) (sC (.int 1))) sKNil)))) (sCons (sCall 16 (sKCons 2 (sVar 0) (sKCons 0 (sVar 1) (sKCons 0 (sOp2 gSub (sVar 2) (sC (.int 1))) sKNil)))) sNil))))) sSkip)
  (sSeq (sIf (sB (sOp2 gEq (sVar 3) (sC (.int 4)))) (sRet (sTup (sCons (sC (.str "neg")) (sCons (sCall 16 (sKCons 2 (sVar 0) (sKCons 0 (sVar 1) (sKCons 0 (sOp2 gSub (sVar 2) (sC (.int 1))) sKNil)))) sNil)))) sSkip)
  (sRet (sTup (sCons (sC (.str "times")) (sCons (sCall 14 (sKCons 2 (sVar 0) sKNil)) (sCons (sCall 16 (sKCons 2 (sVar 0) (sKCons 0 (sVar 1) (sKCons 0 (sOp2 gSub (sVar 2) (sC (.int 1))) sKNil)))) sNil)))))))))
def D__law_bending : Df := ⟨"_law_bending", "_law_bending", top 26, ["pen", "names", "room", "depth"], ["pen", "names", "room", "depth", "way", "parts", "low", "lap"]⟩
def F__law_bending : Sg := (sSeq (sSet 4 (sIte (sB (sOp2 gGt (sVar 3) (sC (.int 0)))) (sCall 7 (sKCons 2 (sVar 0) (sKCons 0 (sC (.int 9)) sKNil))) (sC (.int 0))))
  (sSeq (sIf (sOrT (sB (sOp2 gLt (sVar 4) (sC (.int 2)))) (sB (sOp2 gLe (sOp2 gIdx (sVar 2) (sC (.int 0))) (sC (.int 0))))) (sRet (sCall 16 (sKCons 2 (sVar 0) (sKCons 0 (sVar 1) (sKCons 0 (sBi gMin (sRCons (sVar 3) (sRCons (sC (.int 2)) sRNil))) sKNil))))) sSkip)
  (sSeq (sIf (sB (sOp2 gLt (sVar 4) (sC (.int 5)))) (sSeq (sSub 2 (sC (.int 0)) (sOp2 gSub (sOp2 gIdx (sVar 2) (sC (.int 0))) (sC (.int 1))))
  (sRet (sTup (sCons (sCall 8 (sKCons 2 (sVar 0) (sKCons 0 (sLst (sCons (sC (.str "knee")) (sCons (sC (.str "knee")) (sCons (sC (.str "abs")) sNil)))) sKNil))) (sCons (sCall 17 (sKCons 2 (sVar 0) (sKCons 0 (sVar 1) (sKCons 2 (sVar 2) (sKCons 0 (sOp2 gSub (sVar 3) (sC (.int 1))) sKNil))))) sNil))))) sSkip)
  (sSeq (sIf (sB (sOp2 gEq (sVar 4) (sC (.int 5)))) (sSeq (sSet 5 (sLc (iRg (sRCons (sCall 8 (sKCons 2 (sVar 0) (sKCons 0 (sLst (sCons (sC (.int 2)) (sCons (sC (.int 2)) (sCons (sC (.int 3)) sNil)))) sKNil))) sRNil)) (tgN 7) sYes (sCall 17 (sKCons 2 (sVar 0) (sKCons 0 (sVar 1) (sKCons 2 (sVar 2) (sKCons 0 (sOp2 gSub (sVar 3) (sC (.int 1))) sKNil))))) [7]))
  (sSeq (sSub 2 (sC (.int 0)) (sOp2 gAdd (sOp2 gSub (sOp2 gIdx (sVar 2) (sC (.int 0))) (sBi gLen (sRCons (sVar 5) sRNil))) (sC (.int 1))))
  (sRet (sTup (sCons (sCall 8 (sKCons 2 (sVar 0) (sKCons 0 (sLst (sCons (sC (.str "max")) (sCons (sC (.str "min")) sNil))) sKNil))) (sCons (sBi gTuple (sRCons (sVar 5) sRNil)) sNil)))))) sSkip)
  (sSeq (sIf (sAndT (sB (sOp2 gEq (sVar 4) (sC (.int 6)))) (sB (sOp2 gGt (sOp2 gIdx (sVar 2) (sC (.int 0))) (sC (.int 1))))) (sSeq (sSub 2 (sC (.int 0)) (sOp2 gSub (sOp2 gIdx (sVar 2) (sC (.int 0))) (sC (.int 2))))
  (sSeq (sSet 6 (sCall 8 (sKCons 2 (sVar 0) (sKCons 0 (sLst (sCons (sTup (sCons (sC (.int 0)) (sCons (sC (.int 1)) sNil))) (sCons (sTup (sCons (sOp1 gNeg (sC (.int 1))) (sCons (sC (.int 1)) sNil))) (sCons (sTup (sCons (sOp1 gNeg (sC (.int 1))) (sCons (sC (.int 2)) sNil))) (sCons (sTup (sCons (sC (.int 1)) (sCons (sC (.int 2)) sNil))) sNil))))) sKNil))))
  (sRet (sTup (sCons (sC (.str "clip")) (sCons (sCall 17 (sKCons 2 (sVar 0) (sKCons 0 (sVar 1) (sKCons 2 (sVar 2) (sKCons 0 (sOp2 gSub (sVar 3) (sC (.int 1))) sKNil))))) (sCons (sVar 6) (sCons (sCall 13 (sKCons 0 (sVar 6) (sKCons 0 (sCall 8 (sKCons 2 (sVar 0) (sKCons 0 (sLst (sCons (sTup (sCons (sC (.int 1)) (sCons (sC (.int 1)) sNil))) (sCons (sTup (sCons (sC (.int 2)) (sCons (sC (.int 1)) sNil))) (sCons (sTup (sCons (sC (.int 1)) (sCons (sC (.int 2)) sNil))) (sCons (sTup (sCons (sC (.int 0)) (sCons (sC (.int 1)) sNil))) sNil))))) sKNil))) sKNil))) sNil)))))))) sSkip)
  (sSeq (sIf (sB (sOp2 gEq (sVar 4) (sC (.int 7)))) (sRet (sTup (sCons (sC (.str "times")) (sCons (sCall 14 (sKCons 2 (sVar 0) sKNil)) (sCons (sCall 17 (sKCons 2 (sVar 0) (sKCons 0 (sVar 1) (sKCons 2 (sVar 2) (sKCons 0 (sOp2 gSub (sVar 3) (sC (.int 1))) sKNil))))) sNil))))) sSkip)
  (sRet (sTup (sCons (sCall 8 (sKCons 2 (sVar 0) (sKCons 0 (sLst (sCons (sC (.str "add")) (sCons (sC (.str "sub")) sNil))) sKNil))) (sCons (sCall 17 (sKCons 2 (sVar 0) (sKCons 0 (sVar 1) (sKCons 2 (sVar 2) (sKCons 0 (sOp2 gSub (sVar 3) (sC (.int 1))) sKNil))))) (sCons (sCall 16 (sKCons 2 (sVar 0) (sKCons 0 (sVar 1) (sKCons 0 (sC (.int 1)) sKNil)))) sNil)))))))))))
def D__law_inputs_drawn : Df := ⟨"_law_inputs_drawn", "_law_inputs_drawn", top 27, ["pen"], ["pen", "found", "name", "low"]⟩
def F__law_inputs_drawn : Sg := (sSeq (sSet 1 (sLst sNil))
  (sSeq (sFor (iDat (sSl (sCall 9 (sKCons 2 (sVar 0) (sKCons 0 (sLst (sCons (sC (.str "x")) (sCons (sC (.str "y")) (sCons (sC (.str "speed")) (sCons (sC (.str "in_2")) sNil))))) sKNil))) sNoP (sPart (sCall 8 (sKCons 2 (sVar 0) (sKCons 0 (sLst (sCons (sC (.int 1)) (sCons (sC (.int 2)) (sCons (sC (.int 2)) (sCons (sC (.int 3)) sNil))))) sKNil)))))) (tgN 2) (sSeq (sSet 3 (sCall 8 (sKCons 2 (sVar 0) (sKCons 0 (sLst (sCons (sTup (sCons (sC (.int 0)) (sCons (sC (.int 1)) sNil))) (sCons (sTup (sCons (sOp1 gNeg (sC (.int 1))) (sCons (sC (.int 1)) sNil))) (sCons (sTup (sCons (sOp1 gNeg (sC (.int 2))) (sCons (sC (.int 1)) sNil))) (sCons (sTup (sCons (sOp1 gNeg (sC (.int 1))) (sCons (sC (.int 2)) sNil))) (sCons (sTup (sCons (sC (.int 1)) (sCons (sC (.int 1)) sNil))) sNil)))))) sKNil))))
  (sDrop (sApp 1 (sTup (sCons (sVar 2) (sCons (sVar 3) (sCons (sCall 13 (sKCons 0 (sVar 3) (sKCons 0 (sCall 8 (sKCons 2 (sVar 0) (sKCons 0 (sLst (sCons (sTup (sCons (sC (.int 1)) (sCons (sC (.int 1)) sNil))) (sCons (sTup (sCons (sC (.int 2)) (sCons (sC (.int 1)) sNil))) (sCons (sTup (sCons (sC (.int 3)) (sCons (sC (.int 1)) sNil))) (sCons (sTup (sCons (sC (.int 1)) (sCons (sC (.int 2)) sNil))) (sCons (sTup (sCons (sC (.int 4)) (sCons (sC (.int 1)) sNil))) (sCons (sIte (sB (sOp2 gNe (sVar 1) (sLst sNil))) (sTup (sCons (sC (.int 0)) (sCons (sC (.int 1)) sNil))) (sTup (sCons (sC (.int 2)) (sCons (sC (.int 1)) sNil)))) sNil))))))) sKNil))) sKNil))) sNil))))))))
  (sRet (sBi gTuple (sRCons (sVar 1) sRNil)))))
def D__law_claim_drawn : Df := ⟨"_law_claim_drawn", "_law_claim_drawn", top 28, ["pen", "names", "room", "depth"], ["pen", "names", "room", "depth", "way", "left", "right"]⟩
def F__law_claim_drawn : Sg := (sSeq (sSet 4 (sIte (sB (sOp2 gGt (sVar 3) (sC (.int 0)))) (sCall 7 (sKCons 2 (sVar 0) (sKCons 0 (sC (.int 7)) sKNil))) (sCall 7 (sKCons 2 (sVar 0) (sKCons 0 (sC (.int 3)) sKNil)))))
  (sSeq (sIf (sB (sOp2 gLt (sVar 4) (sC (.int 4)))) (sSeq (sPar [5, 6] (sKCons 1 (sCall 16 (sKCons 2 (sVar 0) (sKCons 0 (sVar 1) (sKCons 0 (sC (.int 1)) sKNil)))) (sKCons 1 (sCall 16 (sKCons 2 (sVar 0) (sKCons 0 (sVar 1) (sKCons 0 (sC (.int 1)) sKNil)))) sKNil)))
  (sSeq (sIf (sAndT (sB (sOp2 gGt (sOp2 gIdx (sVar 2) (sC (.int 0))) (sC (.int 0)))) (sB (sOp2 gEq (sCall 7 (sKCons 2 (sVar 0) (sKCons 0 (sC (.int 4)) sKNil))) (sC (.int 0))))) (sSet 5 (sCall 17 (sKCons 2 (sVar 0) (sKCons 0 (sVar 1) (sKCons 2 (sVar 2) (sKCons 0 (sC (.int 1)) sKNil)))))) sSkip)
  (sRet (sTup (sCons (sCall 8 (sKCons 2 (sVar 0) (sKCons 0 (sLst (sCons (sC (.str "most")) (sCons (sC (.str "less")) (sCons (sC (.str "most")) (sCons (sC (.str "less")) (sCons (sC (.str "same")) sNil)))))) sKNil))) (sCons (sVar 5) (sCons (sVar 6) sNil))))))) sSkip)
  (sSeq (sIf (sB (sOp2 gEq (sVar 4) (sC (.int 4)))) (sRet (sTup (sCons (sC (.str "not")) (sCons (sCall 19 (sKCons 2 (sVar 0) (sKCons 0 (sVar 1) (sKCons 2 (sVar 2) (sKCons 0 (sOp2 gSub (sVar 3) (sC (.int 1))) sKNil))))) sNil)))) sSkip)
  (sRet (sTup (sCons (sCall 8 (sKCons 2 (sVar 0) (sKCons 0 (sLst (sCons (sC (.str "and")) (sCons (sC (.str "or")) sNil))) sKNil))) (sCons (sCall 19 (sKCons 2 (sVar 0) (sKCons 0 (sVar 1) (sKCons 2 (sVar 2) (sKCons 0 (sOp2 gSub (sVar 3) (sC (.int 1))) sKNil))))) (sCons (sCall 19 (sKCons 2 (sVar 0) (sKCons 0 (sVar 1) (sKCons 2 (sVar 2) (sKCons 0 (sOp2 gSub (sVar 3) (sC (.int 1))) sKNil))))) sNil))))))))
def D__law_net_tree : Df := ⟨"_law_net_tree", "_law_net_tree", top 29, ["pen", "most"], ["pen", "most", "names", "name", "outs", "claims", "inputs", "nodes", "room", "row", "pair"]⟩
def F__law_net_tree : Sg := (sSeq (sPar [6, 7, 8] (sKCons 1 (sCall 18 (sKCons 2 (sVar 0) sKNil)) (sKCons 1 (sTup sNil) (sKCons 1 (sLst (sCons (sBi gMax (sRCons (sC (.int 1)) (sRCons (sOp2 gSub (sVar 1) (sC (.int 1))) sRNil))) sNil)) sKNil))))
  (sSeq (sSet 2 (sLc (iDat (sVar 6)) (tgN 9) sYes (sOp2 gIdx (sVar 9) (sC (.int 0))) [9]))
  (sSeq (sFor (iDat (sSl (sCall 9 (sKCons 2 (sVar 0) (sKCons 0 (sLst (sCons (sC (.str "h")) (sCons (sC (.str "sum")) (sCons (sC (.str "k_1")) (sCons (sC (.str "cost")) (sCons (sC (.str "last")) sNil)))))) sKNil))) sNoP (sPart (sCall 8 (sKCons 2 (sVar 0) (sKCons 0 (sLst (sCons (sC (.int 1)) (sCons (sC (.int 2)) (sCons (sC (.int 3)) (sCons (sC (.int 4)) (sCons (sC (.int 2)) sNil)))))) sKNil)))))) (tgN 3) (sSeq (sSet 7 (sOp2 gAdd (sVar 7) (sTup (sCons (sTup (sCons (sVar 3) (sCons (sCall 17 (sKCons 2 (sVar 0) (sKCons 0 (sVar 2) (sKCons 2 (sVar 8) (sKCons 0 (sC (.int 2)) sKNil))))) sNil))) sNil))))
  (sSet 2 (sOp2 gAdd (sVar 2) (sLst (sCons (sVar 3) sNil))))))
  (sSeq (sSet 4 (sIte (sB (sOp2 gEq (sCall 7 (sKCons 2 (sVar 0) (sKCons 0 (sC (.int 2)) sKNil))) (sC (.int 0)))) (sBi gTuple (sRCons (sCall 9 (sKCons 2 (sVar 0) (sKCons 0 (sLc (iDat (sSl (sVar 7) (sPart (sOp1 gNeg (sC (.int 2)))) sNoP)) (tgN 10) sYes (sOp2 gIdx (sVar 10) (sC (.int 0))) [10]) sKNil))) sRNil)) (sTup (sCons (sOp2 gIdx (sOp2 gIdx (sVar 7) (sOp1 gNeg (sC (.int 1)))) (sC (.int 0))) sNil))))
  (sSeq (sSet 4 (sOp2 gAdd (sVar 4) (sIte (sB (sOp2 gEq (sCall 7 (sKCons 2 (sVar 0) (sKCons 0 (sC (.int 6)) sKNil))) (sC (.int 0)))) (sTup (sCons (sOp2 gIdx (sOp2 gIdx (sVar 6) (sC (.int 0))) (sC (.int 0))) sNil)) (sTup sNil))))
  (sSeq (sSet 5 (sLst sNil))
  (sSeq (sFor (iDat (sSl (sCall 9 (sKCons 2 (sVar 0) (sKCons 0 (sLst (sCons (sC (.str "safe")) (sCons (sC (.str "fits")) (sCons (sC (.str "c_2")) sNil)))) sKNil))) sNoP (sPart (sCall 8 (sKCons 2 (sVar 0) (sKCons 0 (sLst (sCons (sC (.int 1)) (sCons (sC (.int 2)) (sCons (sC (.int 1)) sNil)))) sKNil)))))) (tgN 3) (sDrop (sApp 5 (sTup (sCons (sVar 3) (sCons (sCall 19 (sKCons 2 (sVar 0) (sKCons 0 (sVar 2) (sKCons 2 (sLst (sCons (sBi gMax (sRCons (sC (.int 0)) (sRCons (sOp2 gIdx (sVar 8) (sC (.int 0))) sRNil))) sNil)) (sKCons 0 (sCall 8 (sKCons 2 (sVar 0) (sKCons 0 (sLst (sCons (sC (.int 0)) (sCons (sC (.int 1)) (sCons (sC (.int 1)) (sCons (sC (.int 2)) sNil))))) sKNil))) sKNil))))) sNil))))))
  (sRet (sTup (sCons (sVar 6) (sCons (sVar 7) (sCons (sVar 4) (sCons (sBi gTuple (sRCons (sVar 5) sRNil)) sNil)))))))))))))
def D__law_tree : Df := ⟨"_law_tree", "_law_tree", top 30, ["pen"], ["pen"]⟩
def F__law_tree : Sg := (sRet (sCall 20 (sKCons 2 (sVar 0) (sKCons 0 (sCall 8 (sKCons 2 (sVar 0) (sKCons 0 (sLst (sCons (sC (.int 4)) (sCons (sC (.int 3)) (sCons (sC (.int 5)) (sCons (sC (.int 2)) sNil))))) sKNil))) sKNil))))
def D__law_ratio_words : Df := ⟨"_law_ratio_words", "_law_ratio_words", top 31, ["ratio"], ["ratio", "words"]⟩
def F__law_ratio_words : Sg := (sSeq (sSet 1 (sOp2 gAdd (sLst (sCons (sBi gStr (sRCons (sBi gAbs (sRCons (sOp2 gIdx (sVar 0) (sC (.int 0))) sRNil)) sRNil)) sNil)) (sIte (sB (sOp2 gNe (sOp2 gIdx (sVar 0) (sC (.int 1))) (sC (.int 1)))) (sLst (sCons (sC (.str "/")) (sCons (sBi gStr (sRCons (sOp2 gIdx (sVar 0) (sC (.int 1))) sRNil)) sNil))) (sLst sNil))))
  (sRet (sIte (sB (sOp2 gLt (sOp2 gIdx (sVar 0) (sC (.int 0))) (sC (.int 0)))) (sOp2 gAdd (sLst (sCons (sC (.str "-")) sNil)) (sVar 1)) (sVar 1))))
def D__law_bracketed : Df := ⟨"_law_bracketed", "_law_bracketed", top 32, ["pen", "words", "opening", "closing", "need"], ["pen", "words", "opening", "closing", "need"]⟩
def F__law_bracketed : Sg := (sSeq (sIf (sOrT (sB (sVar 4)) (sAndT (sB (sOp2 gNotN (sVar 0) (sC .non))) (sB (sOp2 gEq (sCall 7 (sKCons 2 (sVar 0) (sKCons 0 (sC (.int 8)) sKNil))) (sC (.int 0)))))) (sRet (sOp2 gAdd (sOp2 gAdd (sLst (sCons (sVar 2) sNil)) (sVar 1)) (sLst (sCons (sVar 3) sNil)))) sSkip)
  (sRet (sVar 1)))
def D__law_term_words : Df := ⟨"_law_term_words", "_law_term_words", top 33, ["pen", "expr"], ["pen", "expr"]⟩
def F__law_term_words : Sg := (sSeq (sIf (sB (sOp2 gEq (sOp2 gIdx (sVar 1) (sC (.int 0))) (sC (.str "neg")))) (sRet (sCall 23 (sKCons 2 (sVar 0) (sKCons 0 (sOp2 gAdd (sLst (sCons (sC (.str "-")) sNil)) (sCall 24 (sKCons 2 (sVar 0) (sKCons 0 (sOp2 gIdx (sVar 1) (sC (.int 1))) sKNil)))) (sKCons 0 (sC (.str "(")) (sKCons 0 (sC (.str ")")) (sKCons 0 (sC (.bl false)) sKNil))))))) sSkip)
  (sSeq (sIf (sB (sOp2 gEq (sOp2 gIdx (sVar 1) (sC (.int 0))) (sC (.str "times")))) (sRet (sCall 23 (sKCons 2 (sVar 0) (sKCons 0 (sOp2 gAdd (sOp2 gAdd (sCall 22 (sKCons 0 (sOp2 gIdx (sVar 1) (sC (.int 1))) sKNil)) (sLst (sCons (sC (.str "*")) sNil))) (sCall 24 (sKCons 2 (sVar 0) (sKCons 0 (sOp2 gIdx (sVar 1) (sC (.int 2))) sKNil)))) (sKCons 0 (sC (.str "(")) (sKCons 0 (sC (.str ")")) (sKCons 0 (sC (.bl false)) sKNil))))))) sSkip)
  (sRet (sCall 23 (sKCons 2 (sVar 0) (sKCons 0 (sCall 25 (sKCons 2 (sVar 0) (sKCons 0 (sVar 1) sKNil))) (sKCons 0 (sC (.str "(")) (sKCons 0 (sC (.str ")")) (sKCons 0 (sOp2 gIn (sOp2 gIdx (sVar 1) (sC (.int 0))) (sTup (sCons (sC (.str "add")) (sCons (sC (.str "sub")) sNil)))) sKNil)))))))))
def D__law_expr_words : Df := ⟨"_law_expr_words", "_law_expr_words", top 34, ["pen", "expr"], ["pen", "expr", "sort", "words", "at"]⟩
def F__law_expr_words : Sg := (sSeq (sSet 2 (sOp2 gIdx (sVar 1) (sC (.int 0))))
  (sSeq (sIf (sB (sOp2 gEq (sVar 2) (sC (.str "num")))) (sRet (sCall 22 (sKCons 0 (sOp2 gIdx (sVar 1) (sC (.int 1))) sKNil))) sSkip)
  (sSeq (sIf (sB (sOp2 gEq (sVar 2) (sC (.str "var")))) (sRet (sLst (sCons (sOp2 gIdx (sVar 1) (sC (.int 1))) sNil))) sSkip)
  (sSeq (sIf (sB (sOp2 gIn (sVar 2) (sTup (sCons (sC (.str "add")) (sCons (sC (.str "sub")) sNil))))) (sRet (sOp2 gAdd (sOp2 gAdd (sCall 25 (sKCons 2 (sVar 0) (sKCons 0 (sOp2 gIdx (sVar 1) (sC (.int 1))) sKNil))) (sLst (sCons (sIte (sB (sOp2 gEq (sVar 2) (sC (.str "add")))) (sC (.str "+")) (sC (.str "-"))) sNil))) (sCall 24 (sKCons 2 (sVar 0) (sKCons 0 (sOp2 gIdx (sVar 1) (sC (.int 2))) sKNil))))) sSkip)
  (sSeq (sIf (sB (sOp2 gIn (sVar 2) (sTup (sCons (sC (.str "neg")) (sCons (sC (.str "times")) sNil))))) (sRet (sCall 24 (sKCons 2 (sVar 0) (sKCons 0 (sVar 1) sKNil)))) sSkip)
  (sSeq (sIf (sB (sOp2 gIn (sVar 2) (sTup (sCons (sC (.str "knee")) (sCons (sC (.str "abs")) sNil))))) (sRet (sOp2 gAdd (sOp2 gAdd (sLst (sCons (sVar 2) (sCons (sC (.str "(")) sNil))) (sCall 25 (sKCons 2 (sVar 0) (sKCons 0 (sOp2 gIdx (sVar 1) (sC (.int 1))) sKNil)))) (sLst (sCons (sC (.str ")")) sNil)))) sSkip)
  (sSeq (sIf (sB (sOp2 gEq (sVar 2) (sC (.str "clip")))) (sRet (sOp2 gAdd (sOp2 gAdd (sOp2 gAdd (sOp2 gAdd (sOp2 gAdd (sOp2 gAdd (sLst (sCons (sC (.str "clip")) (sCons (sC (.str "(")) sNil))) (sCall 25 (sKCons 2 (sVar 0) (sKCons 0 (sOp2 gIdx (sVar 1) (sC (.int 1))) sKNil)))) (sLst (sCons (sC (.str ",")) sNil))) (sCall 22 (sKCons 0 (sOp2 gIdx (sVar 1) (sC (.int 2))) sKNil))) (sLst (sCons (sC (.str ",")) sNil))) (sCall 22 (sKCons 0 (sOp2 gIdx (sVar 1) (sC (.int 3))) sKNil))) (sLst (sCons (sC (.str ")")) sNil)))) sSkip)
  (sSeq (sSet 3 (sLst (sCons (sVar 2) (sCons (sC (.str "(")) sNil))))
  (sSeq (sFor (iRg (sRCons (sBi gLen (sRCons (sOp2 gIdx (sVar 1) (sC (.int 1))) sRNil)) sRNil)) (tgN 4) (sSet 3 (sOp2 gAdd (sOp2 gAdd (sVar 3) (sIte (sB (sOp2 gGt (sVar 4) (sC (.int 0)))) (sLst (sCons (sC (.str ",")) sNil)) (sLst sNil))) (sCall 25 (sKCons 2 (sVar 0) (sKCons 0 (sOp2 gIdx (sOp2 gIdx (sVar 1) (sC (.int 1))) (sVar 4)) sKNil))))))
  (sRet (sOp2 gAdd (sVar 3) (sLst (sCons (sC (.str ")")) sNil)))))))))))))
def D__law_claim_words : Df := ⟨"_law_claim_words", "_law_claim_words", top 35, ["pen", "claim"], ["pen", "claim", "sort", "left", "right", "inner"]⟩
def F__law_claim_words : Sg := (sSeq (sSet 2 (sOp2 gIdx (sVar 1) (sC (.int 0))))
  (sSeq (sIf (sB (sOp2 gIn (sVar 2) (sTup (sCons (sC (.str "yes")) (sCons (sC (.str "no")) sNil))))) (sRet (sLst (sCons (sVar 2) sNil))) sSkip)
  (sSeq (sIf (sB (sOp2 gIn (sVar 2) (sTup (sCons (sC (.str "most")) (sCons (sC (.str "less")) (sCons (sC (.str "same")) sNil)))))) (sSeq (sPar [3, 4] (sKCons 1 (sCall 25 (sKCons 2 (sVar 0) (sKCons 0 (sOp2 gIdx (sVar 1) (sC (.int 1))) sKNil))) (sKCons 1 (sCall 25 (sKCons 2 (sVar 0) (sKCons 0 (sOp2 gIdx (sVar 1) (sC (.int 2))) sKNil))) sKNil)))
  (sSeq (sIf (sAndT (sB (sOp2 gNotN (sVar 0) (sC .non))) (sAndT (sB (sOp2 gNe (sVar 2) (sC (.str "same")))) (sB (sOp2 gEq (sCall 7 (sKCons 2 (sVar 0) (sKCons 0 (sC (.int 3)) sKNil))) (sC (.int 0)))))) (sRet (sOp2 gAdd (sOp2 gAdd (sVar 4) (sLst (sCons (sIte (sB (sOp2 gEq (sVar 2) (sC (.str "most")))) (sC (.str ">=")) (sC (.str ">"))) sNil))) (sVar 3))) sSkip)
  (sRet (sOp2 gAdd (sOp2 gAdd (sVar 3) (sLst (sCons (sIte (sB (sOp2 gEq (sVar 2) (sC (.str "most")))) (sC (.str "<=")) (sIte (sB (sOp2 gEq (sVar 2) (sC (.str "less")))) (sC (.str "<")) (sC (.str "=")))) sNil))) (sVar 4))))) sSkip)
  (sSeq (sIf (sB (sOp2 gEq (sVar 2) (sC (.str "not")))) (sSeq (sSet 5 (sOp2 gIdx (sVar 1) (sC (.int 1))))
  (sSeq (sIf (sAndT (sB (sOp2 gNotN (sVar 0) (sC .non))) (sAndT (sB (sOp2 gEq (sOp2 gIdx (sVar 5) (sC (.int 0))) (sC (.str "same")))) (sB (sOp2 gEq (sCall 7 (sKCons 2 (sVar 0) (sKCons 0 (sC (.int 2)) sKNil))) (sC (.int 0)))))) (sRet (sOp2 gAdd (sOp2 gAdd (sCall 25 (sKCons 2 (sVar 0) (sKCons 0 (sOp2 gIdx (sVar 5) (sC (.int 1))) sKNil))) (sLst (sCons (sC (.str "!=")) sNil))) (sCall 25 (sKCons 2 (sVar 0) (sKCons 0 (sOp2 gIdx (sVar 5) (sC (.int 2))) sKNil))))) sSkip)
  (sRet (sOp2 gAdd (sLst (sCons (sC (.str "not")) sNil)) (sCall 23 (sKCons 2 (sVar 0) (sKCons 0 (sCall 26 (sKCons 2 (sVar 0) (sKCons 0 (sVar 5) sKNil))) (sKCons 0 (sC (.str "[")) (sKCons 0 (sC (.str "]")) (sKCons 0 (sOp2 gIn (sOp2 gIdx (sVar 5) (sC (.int 0))) (sTup (sCons (sC (.str "and")) (sCons (sC (.str "or")) sNil)))) sKNil)))))))))) sSkip)
  (sSeq (sSet 3 (sCall 23 (sKCons 2 (sVar 0) (sKCons 0 (sCall 26 (sKCons 2 (sVar 0) (sKCons 0 (sOp2 gIdx (sVar 1) (sC (.int 1))) sKNil))) (sKCons 0 (sC (.str "[")) (sKCons 0 (sC (.str "]")) (sKCons 0 (sAndV (sOp2 gEq (sVar 2) (sC (.str "and"))) (sOp2 gEq (sOp2 gIdx (sOp2 gIdx (sVar 1) (sC (.int 1))) (sC (.int 0))) (sC (.str "or")))) sKNil)))))))
  (sSeq (sSet 4 (sCall 23 (sKCons 2 (sVar 0) (sKCons 0 (sCall 26 (sKCons 2 (sVar 0) (sKCons 0 (sOp2 gIdx (sVar 1) (sC (.int 2))) sKNil))) (sKCons 0 (sC (.str "[")) (sKCons 0 (sC (.str "]")) (sKCons 0 (sOrV (sOp2 gEq (sOp2 gIdx (sOp2 gIdx (sVar 1) (sC (.int 2))) (sC (.int 0))) (sC (.str "or"))) (sAndV (sOp2 gEq (sVar 2) (sC (.str "and"))) (sOp2 gEq (sOp2 gIdx (sOp2 gIdx (sVar 1) (sC (.int 2))) (sC (.int 0))) (sC (.str "and"))))) sKNil)))))))
  (sRet (sOp2 gAdd (sOp2 gAdd (sVar 3) (sLst (sCons (sVar 2) sNil))) (sVar 4)))))))))
def D__law_tree_words : Df := ⟨"_law_tree_words", "_law_tree_words", top 36, ["pen", "tree"], ["pen", "tree", "words", "name", "low", "high", "expr", "claim"]⟩
def F__law_tree_words : Sg := (sSeq (sSet 2 (sLst (sCons (sC (.str "net")) (sCons (sC (.str "{")) sNil))))
  (sSeq (sFor (iDat (sOp2 gIdx (sVar 1) (sC (.int 0)))) (tgT 3 (tgsC (tgN 3) (tgsC (tgN 4) (tgsC (tgN 5) tgsN)))) (sSet 2 (sOp2 gAdd (sOp2 gAdd (sOp2 gAdd (sOp2 gAdd (sOp2 gAdd (sVar 2) (sLst (sCons (sC (.str "in")) (sCons (sVar 3) (sCons (sC (.str "from")) sNil))))) (sCall 22 (sKCons 0 (sVar 4) sKNil))) (sLst (sCons (sC (.str "to")) sNil))) (sCall 22 (sKCons 0 (sVar 5) sKNil))) (sLst (sCons (sC (.str ";")) sNil)))))
  (sSeq (sFor (iDat (sOp2 gIdx (sVar 1) (sC (.int 1)))) (tgT 2 (tgsC (tgN 3) (tgsC (tgN 6) tgsN))) (sSet 2 (sOp2 gAdd (sOp2 gAdd (sOp2 gAdd (sVar 2) (sLst (sCons (sVar 3) (sCons (sC (.str "=")) sNil)))) (sCall 25 (sKCons 2 (sVar 0) (sKCons 0 (sVar 6) sKNil)))) (sLst (sCons (sC (.str ";")) sNil)))))
  (sSeq (sFor (iDat (sOp2 gIdx (sVar 1) (sC (.int 2)))) (tgN 3) (sSet 2 (sOp2 gAdd (sVar 2) (sLst (sCons (sC (.str "out")) (sCons (sVar 3) (sCons (sC (.str ";")) sNil)))))))
  (sSeq (sSet 2 (sOp2 gAdd (sVar 2) (sLst (sCons (sC (.str "}")) sNil))))
  (sSeq (sFor (iDat (sOp2 gIdx (sVar 1) (sC (.int 3)))) (tgT 2 (tgsC (tgN 3) (tgsC (tgN 7) tgsN))) (sSet 2 (sOp2 gAdd (sOp2 gAdd (sOp2 gAdd (sVar 2) (sLst (sCons (sC (.str "claim")) (sCons (sVar 3) (sCons (sC (.str ":")) sNil))))) (sCall 26 (sKCons 2 (sVar 0) (sKCons 0 (sVar 7) sKNil)))) (sLst (sCons (sC (.str ";")) sNil)))))
  (sRet (sVar 2))))))))
def D__law_text_of : Df := ⟨"_law_text_of", "_law_text_of", top 37, ["tree"], ["tree"]⟩
def F__law_text_of : Sg := (sRet (sMt gJoin (sC (.str " ")) (sCall 27 (sKCons 2 (sC .non) (sKCons 0 (sVar 0) sKNil)))))
def D__law_gap : Df := ⟨"_law_gap", "_law_gap", top 38, ["pen", "last", "word"], ["pen", "last", "word", "close", "joined", "way"]⟩
def F__law_gap : Sg := (sSeq (sSet 3 (sOrV (sOp2 gEq (sVar 1) (sC (.str ""))) (sOrV (sNotV (sOrV (sOp1 (strG gIsalnum) (sOp2 gIdx (sVar 1) (sOp1 gNeg (sC (.int 1))))) (sOp2 gEq (sOp2 gIdx (sVar 1) (sOp1 gNeg (sC (.int 1)))) (sC (.str "_"))))) (sNotV (sOrV (sOp1 (strG gIsalnum) (sOp2 gIdx (sVar 2) (sC (.int 0)))) (sOp2 gEq (sOp2 gIdx (sVar 2) (sC (.int 0))) (sC (.str "_"))))))))
  (sSeq (sSet 4 (sOp2 gIn (sOp2 gAdd (sVar 1) (sSl (sVar 2) sNoP (sPart (sC (.int 1))))) (sTup (sCons (sC (.str "<=")) (sCons (sC (.str ">=")) (sCons (sC (.str "!=")) sNil))))))
  (sSeq (sSet 5 (sCall 7 (sKCons 2 (sVar 0) (sKCons 0 (sC (.int 9)) sKNil))))
  (sSeq (sIf (sB (sOp2 gEq (sVar 5) (sC (.int 0)))) (sRet (sC (.str "\n"))) sSkip)
  (sSeq (sIf (sB (sOp2 gEq (sVar 5) (sC (.int 1)))) (sRet (sCall 8 (sKCons 2 (sVar 0) (sKCons 0 (sLst (sCons (sC (.str " # out x; }\n")) (sCons (sC (.str "  ")) (sCons (sC (.str "\n\n  ")) (sCons (sC (.str " #\n")) sNil))))) sKNil)))) sSkip)
  (sRet (sIte (sAndT (sB (sVar 3)) (sAndT (sNotT (sB (sVar 4))) (sB (sOp2 gLt (sVar 5) (sC (.int 4)))))) (sC (.str "")) (sC (.str " ")))))))))
def D__law_loose_text : Df := ⟨"_law_loose_text", "_law_loose_text", top 39, ["pen", "tree"], ["pen", "tree", "word", "text", "last"]⟩
def F__law_loose_text : Sg := (sSeq (sPar [3, 4] (sKCons 1 (sC (.str "")) (sKCons 1 (sC (.str "")) sKNil)))
  (sSeq (sFor (iDat (sCall 27 (sKCons 2 (sVar 0) (sKCons 0 (sVar 1) sKNil)))) (tgN 2) (sPar [3, 4] (sKCons 1 (sOp2 gAdd (sOp2 gAdd (sVar 3) (sCall 29 (sKCons 2 (sVar 0) (sKCons 0 (sVar 4) (sKCons 0 (sVar 2) sKNil))))) (sVar 2)) (sKCons 1 (sVar 2) sKNil))))
  (sRet (sOp2 gAdd (sVar 3) (sCall 8 (sKCons 2 (sVar 0) (sKCons 0 (sLst (sCons (sC (.str "")) (sCons (sC (.str "")) (sCons (sC (.str "\n")) (sCons (sC (.str " ")) (sCons (sC (.str " # the end")) (sCons (sC (.str "#")) sNil))))))) sKNil)))))))
def D__law_words : Df := ⟨"_law_words", "_law_words", top 40, ["text"], ["text", "own", "letters", "figures", "found", "line", "column", "at", "sign", "end", "what"]⟩
def F__law_words : Sg := (sSeq (sPar [2, 3] (sKCons 1 (sC (.str "abcdefghijklmnopqrstuvwxyzABCDEFGHIJKLMNOPQRSTUVWXYZ")) (sKCons 1 (sC (.str "0123456789")) sKNil)))
  (sSeq (sSet 1 (sMt gSplit (sC (.str "abs and claim clip from in knee max min net no not or out to yes")) (sC (.str " "))))
  (sSeq (sPar [4, 5, 6, 7] (sKCons 1 (sLst sNil) (sKCons 1 (sC (.int 0)) (sKCons 1 (sC (.int 0)) (sKCons 1 (sC (.int 0)) sKNil)))))
  (sSeq (sWh (sB (sOp2 gLt (sVar 7) (sBi gLen (sRCons (sVar 0) sRNil)))) (sSeq (sPar [8, 9, 10] (sKCons 1 (sOp2 gIdx (sVar 0) (sVar 7)) (sKCons 1 (sOp2 gAdd (sVar 7) (sC (.int 1))) (sKCons 1 (sC .non) sKNil))))
  (sSeq (sIf (sB (sOp2 gEq (sVar 8) (sC (.str "\n")))) (sSeq (sPar [5, 6, 7] (sKCons 1 (sOp2 gAdd (sVar 5) (sC (.int 1))) (sKCons 1 (sC (.int 0)) (sKCons 1 (sOp2 gAdd (sVar 7) (sC (.int 1))) sKNil))))
  sCont) sSkip)
  (sSeq (sIf (sB (sOp2 gEq (sVar 8) (sC (.str "#")))) (sWh (sAndT (sB (sOp2 gLt (sVar 9) (sBi gLen (sRCons (sVar 0) sRNil)))) (sB (sOp2 gNe (sOp2 gIdx (sVar 0) (sVar 9)) (sC (.str "\n"))))) (sSet 9 (sOp2 gAdd (sVar 9) (sC (.int 1))))) (sIf (sB (sOp2 gIn (sVar 8) (sVar 2))) (sSeq (sWh (sAndT (sB (sOp2 gLt (sVar 9) (sBi gLen (sRCons (sVar 0) sRNil)))) (sB (sOp2 gIn (sOp2 gIdx (sVar 0) (sVar 9)) (sOp2 gAdd (sOp2 gAdd (sVar 2) (sVar 3)) (sC (.str "_")))))) (sSet 9 (sOp2 gAdd (sVar 9) (sC (.int 1)))))
  (sSeq (sSet 10 (sIte (sB (sOp2 gIn (sSl (sVar 0) (sPart (sVar 7)) (sPart (sVar 9))) (sVar 1))) (sC (.str "own")) (sC (.str "name"))))
  (sIf (sB (sOp2 gGt (sOp2 gSub (sVar 9) (sVar 7)) (sC (.int 12)))) (sRet (sOp2 gAdd (sVar 4) (sLst (sCons (sTup (sCons (sC (.str "bad")) (sCons (sC (.str "word")) (sCons (sVar 5) (sCons (sVar 6) sNil))))) sNil)))) sSkip))) (sIf (sB (sOp2 gIn (sVar 8) (sVar 3))) (sSeq (sWh (sAndT (sB (sOp2 gLt (sVar 9) (sBi gLen (sRCons (sVar 0) sRNil)))) (sB (sOp2 gIn (sOp2 gIdx (sVar 0) (sVar 9)) (sVar 3)))) (sSet 9 (sOp2 gAdd (sVar 9) (sC (.int 1)))))
  (sSeq (sSet 10 (sC (.str "number")))
  (sIf (sOrT (sB (sOp2 gGt (sOp2 gSub (sVar 9) (sVar 7)) (sC (.int 12)))) (sAndT (sB (sOp2 gEq (sVar 8) (sC (.str "0")))) (sB (sOp2 gGt (sOp2 gSub (sVar 9) (sVar 7)) (sC (.int 1)))))) (sRet (sOp2 gAdd (sVar 4) (sLst (sCons (sTup (sCons (sC (.str "bad")) (sCons (sC (.str "number")) (sCons (sVar 5) (sCons (sVar 6) sNil))))) sNil)))) sSkip))) (sIf (sB (sOp2 gNe (sVar 8) (sC (.str " ")))) (sSeq (sSet 10 (sC (.str "sign")))
  (sIf (sB (sOp2 gIn (sSl (sVar 0) (sPart (sVar 7)) (sPart (sOp2 gAdd (sVar 7) (sC (.int 2))))) (sTup (sCons (sC (.str "<=")) (sCons (sC (.str ">=")) (sCons (sC (.str "!=")) sNil)))))) (sSet 9 (sOp2 gAdd (sVar 7) (sC (.int 2)))) (sIf (sB (sOp2 gNotIn (sVar 8) (sC (.str "{}()[];:,=<>+-*/")))) (sRet (sOp2 gAdd (sVar 4) (sLst (sCons (sTup (sCons (sC (.str "bad")) (sCons (sC (.str "sign")) (sCons (sVar 5) (sCons (sVar 6) sNil))))) sNil)))) sSkip))) sSkip))))
  (sSeq (sIf (sB (sOp2 gNotN (sVar 10) (sC .non))) (sDrop (sApp 4 (sTup (sCons (sVar 10) (sCons (sSl (sVar 0) (sPart (sVar 7)) (sPart (sVar 9))) (sCons (sVar 5) (sCons (sVar 6) sNil))))))) sSkip)
  (sPar [7, 6] (sKCons 1 (sVar 9) (sKCons 1 (sOp2 gSub (sOp2 gAdd (sVar 6) (sVar 9)) (sVar 7)) sKNil))))))))
  (sRet (sOp2 gAdd (sVar 4) (sLst (sCons (sTup (sCons (sC (.str "end")) (sCons (sC (.str "")) (sCons (sVar 5) (sCons (sVar 6) sNil))))) sNil))))))))
def D__law_spoilt : Df := ⟨"_law_spoilt", "_law_spoilt", top 41, ["pen", "text"], ["pen", "text", "sign", "at", "way"]⟩
def F__law_spoilt : Sg := (sSeq (sPar [3, 4] (sKCons 1 (sCall 7 (sKCons 2 (sVar 0) (sKCons 0 (sOp2 gAdd (sBi gLen (sRCons (sVar 1) sRNil)) (sC (.int 1))) sKNil))) (sKCons 1 (sCall 7 (sKCons 2 (sVar 0) (sKCons 0 (sC (.int 4)) sKNil))) sKNil)))
  (sSeq (sSet 2 (sCall 8 (sKCons 2 (sVar 0) (sKCons 0 (sLst (sCons (sC (.str "_")) (sCons (sC (.str "!")) (sCons (sC (.str "=")) (sCons (sC (.str ":")) (sCons (sC (.str "<")) (sCons (sC (.str ">")) (sCons (sC (.str "\t")) (sCons (sC (.str "0")) (sCons (sC (.str "12")) (sCons (sC (.str "#")) (sCons (sC (.str "\n")) (sCons (sC (.str " ")) (sCons (sC (.str "a")) (sCons (sC (.str "Z9")) (sCons (sC (.str ",")) (sCons (sC (.str ".")) (sCons (sOp2 gMul (sC (.str "x")) (sC (.int 13))) (sCons (sOp2 gMul (sC (.str "1")) (sC (.int 13))) (sCons (sC (.str "007")) (sCons (sC (.str "-")) (sCons (sC (.str "{")) (sCons (sC (.str "!=")) (sCons (sOp2 gMul (sC (.str "9")) (sC (.int 12))) (sCons (sOp2 gMul (sC (.str "b")) (sC (.int 12))) (sCons (sC (.str "<=")) (sCons (sC (.str ">=")) (sCons (sC (.str "<==")) sNil)))))))))))))))))))))))))))) sKNil))))
  (sSeq (sIf (sB (sOp2 gEq (sVar 4) (sC (.int 0)))) (sRet (sOp2 gAdd (sSl (sVar 1) sNoP (sPart (sVar 3))) (sSl (sVar 1) (sPart (sOp2 gAdd (sVar 3) (sC (.int 1)))) sNoP))) sSkip)
  (sSeq (sIf (sB (sOp2 gEq (sVar 4) (sC (.int 1)))) (sRet (sOp2 gAdd (sOp2 gAdd (sSl (sVar 1) sNoP (sPart (sVar 3))) (sVar 2)) (sSl (sVar 1) (sPart (sOp2 gAdd (sVar 3) (sC (.int 1)))) sNoP))) sSkip)
  (sRet (sOp2 gAdd (sOp2 gAdd (sSl (sVar 1) sNoP (sPart (sVar 3))) (sVar 2)) (sSl (sVar 1) (sPart (sVar 3)) sNoP)))))))
def D__law_told_ok : Df := ⟨"_law_told_ok", "_law_told_ok", top 42, ["told"], ["told", "word"]⟩
def F__law_told_ok : Sg := (sRet (sAndV (sOp1 (gIsi ["tuple"]) (sVar 0)) (sBi gAll (sRCons (sLc (iDat (sVar 0)) (tgN 1) sYes (sAndV (sOp1 (gIsi ["tuple"]) (sVar 1)) (sAndV (sOp2 gEq (sBi gLen (sRCons (sVar 1) sRNil)) (sC (.int 4))) (sAndV (sCall 10 (sKCons 0 (sOp2 gIdx (sVar 1) (sC (.int 2))) sKNil)) (sCall 10 (sKCons 0 (sOp2 gIdx (sVar 1) (sC (.int 3))) sKNil))))) [1]) sRNil))))
def D_law : Df := ⟨"law", "law", top 43, ["script"], ["script", "pen", "tree", "lap", "row", "odd", "text", "told", "change", "sign"]⟩
def F_law : Sg := (sSeq (sSet 1 (sCall 6 (sKCons 0 (sVar 0) sKNil)))
  (sSeq (sSet 2 (sCall 21 (sKCons 2 (sVar 1) sKNil)))
  (sSeq (sFor (iRg (sRCons (sC (.int 4)) sRNil)) (tgN 3) (sSeq (sSet 6 (sIte (sB (sOp2 gGt (sVar 3) (sC (.int 0)))) (sCall 30 (sKCons 2 (sVar 1) (sKCons 0 (sVar 2) sKNil))) (sCall 28 (sKCons 0 (sVar 2) sKNil))))
  (sSeq (sSet 7 (sCall 5 (sKCons 0 (sVar 6) sKNil)))
  (sSeq (sIf (sOrT (sB (sOp2 gNe (sVar 7) (sBi gTuple (sRCons (sCall 31 (sKCons 0 (sVar 6) sKNil)) sRNil)))) (sOrT (sNotT (sB (sCall 33 (sKCons 0 (sVar 7) sKNil)))) (sB (sOp2 gNe (sOp2 gIdx (sOp2 gIdx (sVar 7) (sOp1 gNeg (sC (.int 1)))) (sC (.int 0))) (sC (.str "end")))))) (sRet (sC (.bl false))) sSkip)
  (sFor (iRg (sRCons (sC (.int 3)) sRNil)) (tgN 8) (sSeq (sSet 6 (sCall 32 (sKCons 2 (sVar 1) (sKCons 0 (sVar 6) sKNil))))
  (sSeq (sSet 7 (sCall 5 (sKCons 0 (sVar 6) sKNil)))
  (sIf (sOrT (sB (sOp2 gNe (sVar 7) (sBi gTuple (sRCons (sCall 31 (sKCons 0 (sVar 6) sKNil)) sRNil)))) (sNotT (sB (sCall 33 (sKCons 0 (sVar 7) sKNil))))) (sRet (sC (.bl false))) sSkip))))))))
  (sSeq (sSet 4 (sMt gJoin (sC (.str "")) (sLc (iRg (sRCons (sCall 7 (sKCons 2 (sVar 1) (sKCons 0 (sC (.int 30)) sKNil))) sRNil)) (tgN 9) sYes (sCall 8 (sKCons 2 (sVar 1) (sKCons 0 (sOp2 gAdd (sBi gList (sRCons (sC (.str "ab_09 {}[]():;,+-*/=<>!#\n.")) sRNil)) (sLst (sCons (sC (.str "knee")) (sCons (sC (.str "out")) (sCons (sC (.str "net")) sNil))))) sKNil))) [9])))
  (sSeq (sIf (sB (sOp2 gNe (sCall 5 (sKCons 0 (sVar 4) sKNil)) (sBi gTuple (sRCons (sCall 31 (sKCons 0 (sVar 4) sKNil)) sRNil)))) (sRet (sC (.bl false))) sSkip)
  (sSeq (sFor (iDat (sLst (sCons (sC .non) (sCons (sC (.int 5)) (sCons (sC (.bl true)) (sCons (sLst (sCons (sC (.str "a")) sNil)) (sCons (sTup (sCons (sC (.str "a")) sNil)) (sCons (sDisp [.inr "a"] (sCons (sC (.int 1)) sNil)) sNil)))))))) (tgN 5) (sIf (sB (sOp2 gNe (sCall 5 (sKCons 0 (sVar 5) sKNil)) (sTup (sCons (sTup (sCons (sC (.str "bad")) (sCons (sC (.str "text")) (sCons (sC (.int 0)) (sCons (sC (.int 0)) sNil))))) sNil)))) (sRet (sC (.bl false))) sSkip))
  (sRet (sAndV (sOp2 gEq (sCall 5 (sKCons 0 (sC (.str "")) sKNil)) (sTup (sCons (sTup (sCons (sC (.str "end")) (sCons (sC (.str "")) (sCons (sC (.int 0)) (sCons (sC (.int 0)) sNil))))) sNil))) (sAndV (sOp2 gEq (sCall 5 (sKCons 0 (sC (.str "a\n # b")) sKNil)) (sTup (sCons (sTup (sCons (sC (.str "name")) (sCons (sC (.str "a")) (sCons (sC (.int 0)) (sCons (sC (.int 0)) sNil))))) (sCons (sTup (sCons (sC (.str "end")) (sCons (sC (.str "")) (sCons (sC (.int 1)) (sCons (sC (.int 4)) sNil))))) sNil)))) (sOp2 gEq (sCall 5 (sKCons 0 (sC (.str "x!=0")) sKNil)) (sTup (sCons (sTup (sCons (sC (.str "name")) (sCons (sC (.str "x")) (sCons (sC (.int 0)) (sCons (sC (.int 0)) sNil))))) (sCons (sTup (sCons (sC (.str "sign")) (sCons (sC (.str "!=")) (sCons (sC (.int 0)) (sCons (sC (.int 1)) sNil))))) (sCons (sTup (sCons (sC (.str "number")) (sCons (sC (.str "0")) (sCons (sC (.int 0)) (sCons (sC (.int 3)) sNil))))) (sCons (sTup (sCons (sC (.str "end")) (sCons (sC (.str "")) (sCons (sC (.int 0)) (sCons (sC (.int 4)) sNil))))) sNil)))))))))))))))
def tab : List (Str × Gk) := [(("row_end" : Str), Gk.fn 0 3 [0, 0, 0]),
  (("letter_word" : Str), Gk.fn 1 2 [0, 0]),
  (("figure_word" : Str), Gk.fn 2 2 [0, 0]),
  (("word_from" : Str), Gk.fn 3 2 [0, 0]),
  (("words_in" : Str), Gk.fn 4 1 [0]),
  (("words_of" : Str), Gk.fn 5 1 [0]),
  (("_law_pen" : Str), Gk.fn 6 1 [0]),
  (("_law_draw" : Str), Gk.fn 7 2 [2, 0]),
  (("_law_pick" : Str), Gk.fn 8 2 [2, 0]),
  (("_law_shuffled" : Str), Gk.fn 9 2 [2, 0]),
  (("_law_is_int" : Str), Gk.fn 10 1 [0]),
  (("_law_gcd" : Str), Gk.fn 11 2 [0, 0]),
  (("_law_low" : Str), Gk.fn 12 2 [0, 0]),
  (("_law_add" : Str), Gk.fn 13 2 [0, 0]),
  (("_law_small_ratio" : Str), Gk.fn 14 1 [2]),
  (("_law_leaf" : Str), Gk.fn 15 2 [2, 0]),
  (("_law_straight" : Str), Gk.fn 16 3 [2, 0, 0]),
  (("_law_bending" : Str), Gk.fn 17 4 [2, 0, 2, 0]),
  (("_law_inputs_drawn" : Str), Gk.fn 18 1 [2]),
  (("_law_claim_drawn" : Str), Gk.fn 19 4 [2, 0, 2, 0]),
  (("_law_net_tree" : Str), Gk.fn 20 2 [2, 0]),
  (("_law_tree" : Str), Gk.fn 21 1 [2]),
  (("_law_ratio_words" : Str), Gk.fn 22 1 [0]),
  (("_law_bracketed" : Str), Gk.fn 23 5 [2, 0, 0, 0, 0]),
  (("_law_term_words" : Str), Gk.fn 24 2 [2, 0]),
  (("_law_expr_words" : Str), Gk.fn 25 2 [2, 0]),
  (("_law_claim_words" : Str), Gk.fn 26 2 [2, 0]),
  (("_law_tree_words" : Str), Gk.fn 27 2 [2, 0]),
  (("_law_text_of" : Str), Gk.fn 28 1 [0]),
  (("_law_gap" : Str), Gk.fn 29 3 [2, 0, 0]),
  (("_law_loose_text" : Str), Gk.fn 30 2 [2, 0]),
  (("_law_words" : Str), Gk.fn 31 1 [0]),
  (("_law_spoilt" : Str), Gk.fn 32 2 [2, 0]),
  (("_law_told_ok" : Str), Gk.fn 33 1 [0]),
  (("law" : Str), Gk.fn 34 1 [0]),
  (("DIGITS" : Str), Gk.cst c_DIGITS),
  (("LETTERS" : Str), Gk.cst c_LETTERS),
  (("SIGNS" : Str), Gk.cst c_SIGNS),
  (("OWN_WORDS" : Str), Gk.cst c_OWN_WORDS),
  (("TWO_SIGNS" : Str), Gk.cst c_TWO_SIGNS),
  (("ONE_SIGNS" : Str), Gk.cst c_ONE_SIGNS),
  (("LONGEST_WORD" : Str), Gk.cst c_LONGEST_WORD),
  (("abs" : Str), Gk.blt),
  (("all" : Str), Gk.blt),
  (("bool" : Str), Gk.blt),
  (("int" : Str), Gk.blt),
  (("isinstance" : Str), Gk.blt),
  (("len" : Str), Gk.blt),
  (("list" : Str), Gk.blt),
  (("max" : Str), Gk.blt),
  (("min" : Str), Gk.blt),
  (("range" : Str), Gk.blt),
  (("str" : Str), Gk.blt),
  (("tuple" : Str), Gk.blt)]
def Ds : List Df := [D_row_end, D_letter_word, D_figure_word, D_word_from, D_words_in, D_words_of, D__law_pen, D__law_draw, D__law_pick, D__law_shuffled, D__law_is_int, D__law_gcd, D__law_low, D__law_add, D__law_small_ratio, D__law_leaf, D__law_straight, D__law_bending, D__law_inputs_drawn, D__law_claim_drawn, D__law_net_tree, D__law_tree, D__law_ratio_words, D__law_bracketed, D__law_term_words, D__law_expr_words, D__law_claim_words, D__law_tree_words, D__law_text_of, D__law_gap, D__law_loose_text, D__law_words, D__law_spoilt, D__law_told_ok, D_law]
def Fs : List Fd := [⟨3, 4, F_row_end⟩, ⟨2, 3, F_letter_word⟩, ⟨2, 3, F_figure_word⟩, ⟨2, 2, F_word_from⟩, ⟨1, 8, F_words_in⟩, ⟨1, 1, F_words_of⟩, ⟨1, 3, F__law_pen⟩, ⟨2, 5, F__law_draw⟩, ⟨2, 2, F__law_pick⟩, ⟨2, 5, F__law_shuffled⟩, ⟨1, 1, F__law_is_int⟩, ⟨2, 2, F__law_gcd⟩, ⟨2, 3, F__law_low⟩, ⟨2, 2, F__law_add⟩, ⟨1, 1, F__law_small_ratio⟩, ⟨2, 2, F__law_leaf⟩, ⟨3, 4, F__law_straight⟩, ⟨4, 8, F__law_bending⟩, ⟨1, 4, F__law_inputs_drawn⟩, ⟨4, 7, F__law_claim_drawn⟩, ⟨2, 11, F__law_net_tree⟩, ⟨1, 1, F__law_tree⟩, ⟨1, 2, F__law_ratio_words⟩, ⟨5, 5, F__law_bracketed⟩, ⟨2, 2, F__law_term_words⟩, ⟨2, 5, F__law_expr_words⟩, ⟨2, 6, F__law_claim_words⟩, ⟨2, 8, F__law_tree_words⟩, ⟨1, 1, F__law_text_of⟩, ⟨3, 6, F__law_gap⟩, ⟨2, 5, F__law_loose_text⟩, ⟨1, 11, F__law_words⟩, ⟨2, 5, F__law_spoilt⟩, ⟨1, 2, F__law_told_ok⟩, ⟨1, 10, F_law⟩]
theorem t_row_end : compF tab D_row_end = some F_row_end := by kernel_rfl
theorem t_letter_word : compF tab D_letter_word = some F_letter_word := by kernel_rfl
theorem t_figure_word : compF tab D_figure_word = some F_figure_word := by kernel_rfl
theorem t_word_from : compF tab D_word_from = some F_word_from := by kernel_rfl
theorem t_words_in : compF tab D_words_in = some F_words_in := by kernel_rfl
theorem t_words_of : compF tab D_words_of = some F_words_of := by kernel_rfl
theorem t__law_pen : compF tab D__law_pen = some F__law_pen := by kernel_rfl
theorem t__law_draw : compF tab D__law_draw = some F__law_draw := by kernel_rfl
theorem t__law_pick : compF tab D__law_pick = some F__law_pick := by kernel_rfl
theorem t__law_shuffled : compF tab D__law_shuffled = some F__law_shuffled := by kernel_rfl
theorem t__law_is_int : compF tab D__law_is_int = some F__law_is_int := by kernel_rfl
theorem t__law_gcd : compF tab D__law_gcd = some F__law_gcd := by kernel_rfl
theorem t__law_low : compF tab D__law_low = some F__law_low := by kernel_rfl
theorem t__law_add : compF tab D__law_add = some F__law_add := by kernel_rfl
theorem t__law_small_ratio : compF tab D__law_small_ratio = some F__law_small_ratio := by kernel_rfl
theorem t__law_leaf : compF tab D__law_leaf = some F__law_leaf := by kernel_rfl
theorem t__law_straight : compF tab D__law_straight = some F__law_straight := by kernel_rfl
theorem t__law_bending : compF tab D__law_bending = some F__law_bending := by kernel_rfl
theorem t__law_inputs_drawn : compF tab D__law_inputs_drawn = some F__law_inputs_drawn := by kernel_rfl
theorem t__law_claim_drawn : compF tab D__law_claim_drawn = some F__law_claim_drawn := by kernel_rfl
theorem t__law_net_tree : compF tab D__law_net_tree = some F__law_net_tree := by kernel_rfl
theorem t__law_tree : compF tab D__law_tree = some F__law_tree := by kernel_rfl
theorem t__law_ratio_words : compF tab D__law_ratio_words = some F__law_ratio_words := by kernel_rfl
theorem t__law_bracketed : compF tab D__law_bracketed = some F__law_bracketed := by kernel_rfl
theorem t__law_term_words : compF tab D__law_term_words = some F__law_term_words := by kernel_rfl
theorem t__law_expr_words : compF tab D__law_expr_words = some F__law_expr_words := by kernel_rfl
theorem t__law_claim_words : compF tab D__law_claim_words = some F__law_claim_words := by kernel_rfl
theorem t__law_tree_words : compF tab D__law_tree_words = some F__law_tree_words := by kernel_rfl
theorem t__law_text_of : compF tab D__law_text_of = some F__law_text_of := by kernel_rfl
theorem t__law_gap : compF tab D__law_gap = some F__law_gap := by kernel_rfl
theorem t__law_loose_text : compF tab D__law_loose_text = some F__law_loose_text := by kernel_rfl
theorem t__law_words : compF tab D__law_words = some F__law_words := by kernel_rfl
theorem t__law_spoilt : compF tab D__law_spoilt = some F__law_spoilt := by kernel_rfl
theorem t__law_told_ok : compF tab D__law_told_ok = some F__law_told_ok := by kernel_rfl
theorem t_law : compF tab D_law = some F_law := by kernel_rfl
def prog : Prog := ⟨Ds, Fs, tab⟩
theorem prog_ok : prog.Ok where
  sc := ⟨⟨rfl, rfl, rfl, by decide +kernel, rfl, by decide +kernel, by decide +kernel⟩,
    ⟨rfl, rfl, rfl, by decide +kernel, rfl, by decide +kernel, by decide +kernel⟩,
    ⟨rfl, rfl, rfl, by decide +kernel, rfl, by decide +kernel, by decide +kernel⟩,
    ⟨rfl, rfl, rfl, by decide +kernel, rfl, by decide +kernel, by decide +kernel⟩,
    ⟨rfl, rfl, rfl, by decide +kernel, rfl, by decide +kernel, by decide +kernel⟩,
    ⟨rfl, rfl, rfl, by decide +kernel, rfl, by decide +kernel, by decide +kernel⟩,
    ⟨rfl, rfl, rfl, by decide +kernel, rfl, by decide +kernel, by decide +kernel⟩,
    ⟨rfl, rfl, rfl, by decide +kernel, rfl, by decide +kernel, by decide +kernel⟩,
    ⟨rfl, rfl, rfl, by decide +kernel, rfl, by decide +kernel, by decide +kernel⟩,
    ⟨rfl, rfl, rfl, by decide +kernel, rfl, by decide +kernel, by decide +kernel⟩,
    ⟨rfl, rfl, rfl, by decide +kernel, rfl, by decide +kernel, by decide +kernel⟩,
    ⟨rfl, rfl, rfl, by decide +kernel, rfl, by decide +kernel, by decide +kernel⟩,
    ⟨rfl, rfl, rfl, by decide +kernel, rfl, by decide +kernel, by decide +kernel⟩,
    ⟨rfl, rfl, rfl, by decide +kernel, rfl, by decide +kernel, by decide +kernel⟩,
    ⟨rfl, rfl, rfl, by decide +kernel, rfl, by decide +kernel, by decide +kernel⟩,
    ⟨rfl, rfl, rfl, by decide +kernel, rfl, by decide +kernel, by decide +kernel⟩,
    ⟨rfl, rfl, rfl, by decide +kernel, rfl, by decide +kernel, by decide +kernel⟩,
    ⟨rfl, rfl, rfl, by decide +kernel, rfl, by decide +kernel, by decide +kernel⟩,
    ⟨rfl, rfl, rfl, by decide +kernel, rfl, by decide +kernel, by decide +kernel⟩,
    ⟨rfl, rfl, rfl, by decide +kernel, rfl, by decide +kernel, by decide +kernel⟩,
    ⟨rfl, rfl, rfl, by decide +kernel, rfl, by decide +kernel, by decide +kernel⟩,
    ⟨rfl, rfl, rfl, by decide +kernel, rfl, by decide +kernel, by decide +kernel⟩,
    ⟨rfl, rfl, rfl, by decide +kernel, rfl, by decide +kernel, by decide +kernel⟩,
    ⟨rfl, rfl, rfl, by decide +kernel, rfl, by decide +kernel, by decide +kernel⟩,
    ⟨rfl, rfl, rfl, by decide +kernel, rfl, by decide +kernel, by decide +kernel⟩,
    ⟨rfl, rfl, rfl, by decide +kernel, rfl, by decide +kernel, by decide +kernel⟩,
    ⟨rfl, rfl, rfl, by decide +kernel, rfl, by decide +kernel, by decide +kernel⟩,
    ⟨rfl, rfl, rfl, by decide +kernel, rfl, by decide +kernel, by decide +kernel⟩,
    ⟨rfl, rfl, rfl, by decide +kernel, rfl, by decide +kernel, by decide +kernel⟩,
    ⟨rfl, rfl, rfl, by decide +kernel, rfl, by decide +kernel, by decide +kernel⟩,
    ⟨rfl, rfl, rfl, by decide +kernel, rfl, by decide +kernel, by decide +kernel⟩,
    ⟨rfl, rfl, rfl, by decide +kernel, rfl, by decide +kernel, by decide +kernel⟩,
    ⟨rfl, rfl, rfl, by decide +kernel, rfl, by decide +kernel, by decide +kernel⟩,
    ⟨rfl, rfl, rfl, by decide +kernel, rfl, by decide +kernel, by decide +kernel⟩,
    ⟨rfl, rfl, rfl, by decide +kernel, rfl, by decide +kernel, by decide +kernel⟩,
    trivial⟩
  cp := ⟨⟨_, t_row_end, rfl⟩, ⟨_, t_letter_word, rfl⟩, ⟨_, t_figure_word, rfl⟩, ⟨_, t_word_from, rfl⟩, ⟨_, t_words_in, rfl⟩, ⟨_, t_words_of, rfl⟩, ⟨_, t__law_pen, rfl⟩, ⟨_, t__law_draw, rfl⟩, ⟨_, t__law_pick, rfl⟩, ⟨_, t__law_shuffled, rfl⟩, ⟨_, t__law_is_int, rfl⟩, ⟨_, t__law_gcd, rfl⟩, ⟨_, t__law_low, rfl⟩, ⟨_, t__law_add, rfl⟩, ⟨_, t__law_small_ratio, rfl⟩, ⟨_, t__law_leaf, rfl⟩, ⟨_, t__law_straight, rfl⟩, ⟨_, t__law_bending, rfl⟩, ⟨_, t__law_inputs_drawn, rfl⟩, ⟨_, t__law_claim_drawn, rfl⟩, ⟨_, t__law_net_tree, rfl⟩, ⟨_, t__law_tree, rfl⟩, ⟨_, t__law_ratio_words, rfl⟩, ⟨_, t__law_bracketed, rfl⟩, ⟨_, t__law_term_words, rfl⟩, ⟨_, t__law_expr_words, rfl⟩, ⟨_, t__law_claim_words, rfl⟩, ⟨_, t__law_tree_words, rfl⟩, ⟨_, t__law_text_of, rfl⟩, ⟨_, t__law_gap, rfl⟩, ⟨_, t__law_loose_text, rfl⟩, ⟨_, t__law_words, rfl⟩, ⟨_, t__law_spoilt, rfl⟩, ⟨_, t__law_told_ok, rfl⟩, ⟨_, t_law, rfl⟩, trivial⟩
  tab := ⟨⟨D_row_end, rfl, rfl, rfl⟩, ⟨D_letter_word, rfl, rfl, rfl⟩, ⟨D_figure_word, rfl, rfl, rfl⟩, ⟨D_word_from, rfl, rfl, rfl⟩, ⟨D_words_in, rfl, rfl, rfl⟩, ⟨D_words_of, rfl, rfl, rfl⟩, ⟨D__law_pen, rfl, rfl, rfl⟩, ⟨D__law_draw, rfl, rfl, rfl⟩, ⟨D__law_pick, rfl, rfl, rfl⟩, ⟨D__law_shuffled, rfl, rfl, rfl⟩, ⟨D__law_is_int, rfl, rfl, rfl⟩, ⟨D__law_gcd, rfl, rfl, rfl⟩, ⟨D__law_low, rfl, rfl, rfl⟩, ⟨D__law_add, rfl, rfl, rfl⟩, ⟨D__law_small_ratio, rfl, rfl, rfl⟩, ⟨D__law_leaf, rfl, rfl, rfl⟩, ⟨D__law_straight, rfl, rfl, rfl⟩, ⟨D__law_bending, rfl, rfl, rfl⟩, ⟨D__law_inputs_drawn, rfl, rfl, rfl⟩, ⟨D__law_claim_drawn, rfl, rfl, rfl⟩, ⟨D__law_net_tree, rfl, rfl, rfl⟩, ⟨D__law_tree, rfl, rfl, rfl⟩, ⟨D__law_ratio_words, rfl, rfl, rfl⟩, ⟨D__law_bracketed, rfl, rfl, rfl⟩, ⟨D__law_term_words, rfl, rfl, rfl⟩, ⟨D__law_expr_words, rfl, rfl, rfl⟩, ⟨D__law_claim_words, rfl, rfl, rfl⟩, ⟨D__law_tree_words, rfl, rfl, rfl⟩, ⟨D__law_text_of, rfl, rfl, rfl⟩, ⟨D__law_gap, rfl, rfl, rfl⟩, ⟨D__law_loose_text, rfl, rfl, rfl⟩, ⟨D__law_words, rfl, rfl, rfl⟩, ⟨D__law_spoilt, rfl, rfl, rfl⟩, ⟨D__law_told_ok, rfl, rfl, rfl⟩, ⟨D_law, rfl, rfl, rfl⟩, trivial, trivial, trivial, trivial, trivial, trivial, trivial, trivial, trivial, trivial, trivial, trivial, trivial, trivial, trivial, trivial, trivial, trivial, trivial, trivial⟩
theorem at_mk {K : PySem.W.Frag} {h : Heap} {mg : Str → Option Value} (X : K.In h) (G : h.Ns mainGlobals mg)
  {f0 : Addr} {od0 an0 : Option Addr} {sl0 : Array (Option Value)} {oc0 kV0 dc0 pm0 cd0 ct0 : Value}
  (a0 : PySem.W.nsIn K mainGlobals "row_end" = some (some (.ref f0)))
  (l0 : K.lookup f0 = some ⟨oc0, od0, .func (PySem.W.fnOf "row_end" "row_end" (defArgs (top 8)) (defBody (top 8)) (defScope (top 8)) .none kV0 dc0 pm0 an0 cd0 ct0), sl0⟩)
  (c0 : PySem.W.codeIn K cd0 "row_end" = true) (k0 : PySem.W.keepIn K (.ref f0) = true)
  {f1 : Addr} {od1 an1 : Option Addr} {sl1 : Array (Option Value)} {oc1 kV1 dc1 pm1 cd1 ct1 : Value}
  (a1 : PySem.W.nsIn K mainGlobals "letter_word" = some (some (.ref f1)))
  (l1 : K.lookup f1 = some ⟨oc1, od1, .func (PySem.W.fnOf "letter_word" "letter_word" (defArgs (top 9)) (defBody (top 9)) (defScope (top 9)) .none kV1 dc1 pm1 an1 cd1 ct1), sl1⟩)
  (c1 : PySem.W.codeIn K cd1 "letter_word" = true) (k1 : PySem.W.keepIn K (.ref f1) = true)
  {f2 : Addr} {od2 an2 : Option Addr} {sl2 : Array (Option Value)} {oc2 kV2 dc2 pm2 cd2 ct2 : Value}
  (a2 : PySem.W.nsIn K mainGlobals "figure_word" = some (some (.ref f2)))
  (l2 : K.lookup f2 = some ⟨oc2, od2, .func (PySem.W.fnOf "figure_word" "figure_word" (defArgs (top 10)) (defBody (top 10)) (defScope (top 10)) .none kV2 dc2 pm2 an2 cd2 ct2), sl2⟩)
  (c2 : PySem.W.codeIn K cd2 "figure_word" = true) (k2 : PySem.W.keepIn K (.ref f2) = true)
  {f3 : Addr} {od3 an3 : Option Addr} {sl3 : Array (Option Value)} {oc3 kV3 dc3 pm3 cd3 ct3 : Value}
  (a3 : PySem.W.nsIn K mainGlobals "word_from" = some (some (.ref f3)))
  (l3 : K.lookup f3 = some ⟨oc3, od3, .func (PySem.W.fnOf "word_from" "word_from" (defArgs (top 11)) (defBody (top 11)) (defScope (top 11)) .none kV3 dc3 pm3 an3 cd3 ct3), sl3⟩)
  (c3 : PySem.W.codeIn K cd3 "word_from" = true) (k3 : PySem.W.keepIn K (.ref f3) = true)
  {f4 : Addr} {od4 an4 : Option Addr} {sl4 : Array (Option Value)} {oc4 kV4 dc4 pm4 cd4 ct4 : Value}
  (a4 : PySem.W.nsIn K mainGlobals "words_in" = some (some (.ref f4)))
  (l4 : K.lookup f4 = some ⟨oc4, od4, .func (PySem.W.fnOf "words_in" "words_in" (defArgs (top 12)) (defBody (top 12)) (defScope (top 12)) .none kV4 dc4 pm4 an4 cd4 ct4), sl4⟩)
  (c4 : PySem.W.codeIn K cd4 "words_in" = true) (k4 : PySem.W.keepIn K (.ref f4) = true)
  {f5 : Addr} {od5 an5 : Option Addr} {sl5 : Array (Option Value)} {oc5 kV5 dc5 pm5 cd5 ct5 : Value}
  (a5 : PySem.W.nsIn K mainGlobals "words_of" = some (some (.ref f5)))
  (l5 : K.lookup f5 = some ⟨oc5, od5, .func (PySem.W.fnOf "words_of" "words_of" (defArgs (top 13)) (defBody (top 13)) (defScope (top 13)) .none kV5 dc5 pm5 an5 cd5 ct5), sl5⟩)
  (c5 : PySem.W.codeIn K cd5 "words_of" = true) (k5 : PySem.W.keepIn K (.ref f5) = true)
  {f6 : Addr} {od6 an6 : Option Addr} {sl6 : Array (Option Value)} {oc6 kV6 dc6 pm6 cd6 ct6 : Value}
  (a6 : PySem.W.nsIn K mainGlobals "_law_pen" = some (some (.ref f6)))
  (l6 : K.lookup f6 = some ⟨oc6, od6, .func (PySem.W.fnOf "_law_pen" "_law_pen" (defArgs (top 15)) (defBody (top 15)) (defScope (top 15)) .none kV6 dc6 pm6 an6 cd6 ct6), sl6⟩)
  (c6 : PySem.W.codeIn K cd6 "_law_pen" = true) (k6 : PySem.W.keepIn K (.ref f6) = true)
  {f7 : Addr} {od7 an7 : Option Addr} {sl7 : Array (Option Value)} {oc7 kV7 dc7 pm7 cd7 ct7 : Value}
  (a7 : PySem.W.nsIn K mainGlobals "_law_draw" = some (some (.ref f7)))
  (l7 : K.lookup f7 = some ⟨oc7, od7, .func (PySem.W.fnOf "_law_draw" "_law_draw" (defArgs (top 16)) (defBody (top 16)) (defScope (top 16)) .none kV7 dc7 pm7 an7 cd7 ct7), sl7⟩)
  (c7 : PySem.W.codeIn K cd7 "_law_draw" = true) (k7 : PySem.W.keepIn K (.ref f7) = true)
  {f8 : Addr} {od8 an8 : Option Addr} {sl8 : Array (Option Value)} {oc8 kV8 dc8 pm8 cd8 ct8 : Value}
  (a8 : PySem.W.nsIn K mainGlobals "_law_pick" = some (some (.ref f8)))
  (l8 : K.lookup f8 = some ⟨oc8, od8, .func (PySem.W.fnOf "_law_pick" "_law_pick" (defArgs (top 17)) (defBody (top 17)) (defScope (top 17)) .none kV8 dc8 pm8 an8 cd8 ct8), sl8⟩)
  (c8 : PySem.W.codeIn K cd8 "_law_pick" = true) (k8 : PySem.W.keepIn K (.ref f8) = true)
  {f9 : Addr} {od9 an9 : Option Addr} {sl9 : Array (Option Value)} {oc9 kV9 dc9 pm9 cd9 ct9 : Value}
  (a9 : PySem.W.nsIn K mainGlobals "_law_shuffled" = some (some (.ref f9)))
  (l9 : K.lookup f9 = some ⟨oc9, od9, .func (PySem.W.fnOf "_law_shuffled" "_law_shuffled" (defArgs (top 18)) (defBody (top 18)) (defScope (top 18)) .none kV9 dc9 pm9 an9 cd9 ct9), sl9⟩)
  (c9 : PySem.W.codeIn K cd9 "_law_shuffled" = true) (k9 : PySem.W.keepIn K (.ref f9) = true)
  {f10 : Addr} {od10 an10 : Option Addr} {sl10 : Array (Option Value)} {oc10 kV10 dc10 pm10 cd10 ct10 : Value}
  (a10 : PySem.W.nsIn K mainGlobals "_law_is_int" = some (some (.ref f10)))
  (l10 : K.lookup f10 = some ⟨oc10, od10, .func (PySem.W.fnOf "_law_is_int" "_law_is_int" (defArgs (top 19)) (defBody (top 19)) (defScope (top 19)) .none kV10 dc10 pm10 an10 cd10 ct10), sl10⟩)
  (c10 : PySem.W.codeIn K cd10 "_law_is_int" = true) (k10 : PySem.W.keepIn K (.ref f10) = true)
  {f11 : Addr} {od11 an11 : Option Addr} {sl11 : Array (Option Value)} {oc11 kV11 dc11 pm11 cd11 ct11 : Value}
  (a11 : PySem.W.nsIn K mainGlobals "_law_gcd" = some (some (.ref f11)))
  (l11 : K.lookup f11 = some ⟨oc11, od11, .func (PySem.W.fnOf "_law_gcd" "_law_gcd" (defArgs (top 20)) (defBody (top 20)) (defScope (top 20)) .none kV11 dc11 pm11 an11 cd11 ct11), sl11⟩)
  (c11 : PySem.W.codeIn K cd11 "_law_gcd" = true) (k11 : PySem.W.keepIn K (.ref f11) = true)
  {f12 : Addr} {od12 an12 : Option Addr} {sl12 : Array (Option Value)} {oc12 kV12 dc12 pm12 cd12 ct12 : Value}
  (a12 : PySem.W.nsIn K mainGlobals "_law_low" = some (some (.ref f12)))
  (l12 : K.lookup f12 = some ⟨oc12, od12, .func (PySem.W.fnOf "_law_low" "_law_low" (defArgs (top 21)) (defBody (top 21)) (defScope (top 21)) .none kV12 dc12 pm12 an12 cd12 ct12), sl12⟩)
  (c12 : PySem.W.codeIn K cd12 "_law_low" = true) (k12 : PySem.W.keepIn K (.ref f12) = true)
  {f13 : Addr} {od13 an13 : Option Addr} {sl13 : Array (Option Value)} {oc13 kV13 dc13 pm13 cd13 ct13 : Value}
  (a13 : PySem.W.nsIn K mainGlobals "_law_add" = some (some (.ref f13)))
  (l13 : K.lookup f13 = some ⟨oc13, od13, .func (PySem.W.fnOf "_law_add" "_law_add" (defArgs (top 22)) (defBody (top 22)) (defScope (top 22)) .none kV13 dc13 pm13 an13 cd13 ct13), sl13⟩)
  (c13 : PySem.W.codeIn K cd13 "_law_add" = true) (k13 : PySem.W.keepIn K (.ref f13) = true)
  {f14 : Addr} {od14 an14 : Option Addr} {sl14 : Array (Option Value)} {oc14 kV14 dc14 pm14 cd14 ct14 : Value}
  (a14 : PySem.W.nsIn K mainGlobals "_law_small_ratio" = some (some (.ref f14)))
  (l14 : K.lookup f14 = some ⟨oc14, od14, .func (PySem.W.fnOf "_law_small_ratio" "_law_small_ratio" (defArgs (top 23)) (defBody (top 23)) (defScope (top 23)) .none kV14 dc14 pm14 an14 cd14 ct14), sl14⟩)
  (c14 : PySem.W.codeIn K cd14 "_law_small_ratio" = true) (k14 : PySem.W.keepIn K (.ref f14) = true)
  {f15 : Addr} {od15 an15 : Option Addr} {sl15 : Array (Option Value)} {oc15 kV15 dc15 pm15 cd15 ct15 : Value}
  (a15 : PySem.W.nsIn K mainGlobals "_law_leaf" = some (some (.ref f15)))
  (l15 : K.lookup f15 = some ⟨oc15, od15, .func (PySem.W.fnOf "_law_leaf" "_law_leaf" (defArgs (top 24)) (defBody (top 24)) (defScope (top 24)) .none kV15 dc15 pm15 an15 cd15 ct15), sl15⟩)
  (c15 : PySem.W.codeIn K cd15 "_law_leaf" = true) (k15 : PySem.W.keepIn K (.ref f15) = true)
  {f16 : Addr} {od16 an16 : Option Addr} {sl16 : Array (Option Value)} {oc16 kV16 dc16 pm16 cd16 ct16 : Value}
  (a16 : PySem.W.nsIn K mainGlobals "_law_straight" = some (some (.ref f16)))
  (l16 : K.lookup f16 = some ⟨oc16, od16, .func (PySem.W.fnOf "_law_straight" "_law_straight" (defArgs (top 25)) (defBody (top 25)) (defScope (top 25)) .none kV16 dc16 pm16 an16 cd16 ct16), sl16⟩)
  (c16 : PySem.W.codeIn K cd16 "_law_straight" = true) (k16 : PySem.W.keepIn K (.ref f16) = true)
  {f17 : Addr} {od17 an17 : Option Addr} {sl17 : Array (Option Value)} {oc17 kV17 dc17 pm17 cd17 ct17 : Value}
  (a17 : PySem.W.nsIn K mainGlobals "_law_bending" = some (some (.ref f17)))
  (l17 : K.lookup f17 = some ⟨oc17, od17, .func (PySem.W.fnOf "_law_bending" "_law_bending" (defArgs (top 26)) (defBody (top 26)) (defScope (top 26)) .none kV17 dc17 pm17 an17 cd17 ct17), sl17⟩)
  (c17 : PySem.W.codeIn K cd17 "_law_bending" = true) (k17 : PySem.W.keepIn K (.ref f17) = true)
  {f18 : Addr} {od18 an18 : Option Addr} {sl18 : Array (Option Value)} {oc18 kV18 dc18 pm18 cd18 ct18 : Value}
  (a18 : PySem.W.nsIn K mainGlobals "_law_inputs_drawn" = some (some (.ref f18)))
  (l18 : K.lookup f18 = some ⟨oc18, od18, .func (PySem.W.fnOf "_law_inputs_drawn" "_law_inputs_drawn" (defArgs (top 27)) (defBody (top 27)) (defScope (top 27)) .none kV18 dc18 pm18 an18 cd18 ct18), sl18⟩)
  (c18 : PySem.W.codeIn K cd18 "_law_inputs_drawn" = true) (k18 : PySem.W.keepIn K (.ref f18) = true)
  {f19 : Addr} {od19 an19 : Option Addr} {sl19 : Array (Option Value)} {oc19 kV19 dc19 pm19 cd19 ct19 : Value}
  (a19 : PySem.W.nsIn K mainGlobals "_law_claim_drawn" = some (some (.ref f19)))
  (l19 : K.lookup f19 = some ⟨oc19, od19, .func (PySem.W.fnOf "_law_claim_drawn" "_law_claim_drawn" (defArgs (top 28)) (defBody (top 28)) (defScope (top 28)) .none kV19 dc19 pm19 an19 cd19 ct19), sl19⟩)
  (c19 : PySem.W.codeIn K cd19 "_law_claim_drawn" = true) (k19 : PySem.W.keepIn K (.ref f19) = true)
  {f20 : Addr} {od20 an20 : Option Addr} {sl20 : Array (Option Value)} {oc20 kV20 dc20 pm20 cd20 ct20 : Value}
  (a20 : PySem.W.nsIn K mainGlobals "_law_net_tree" = some (some (.ref f20)))
  (l20 : K.lookup f20 = some ⟨oc20, od20, .func (PySem.W.fnOf "_law_net_tree" "_law_net_tree" (defArgs (top 29)) (defBody (top 29)) (defScope (top 29)) .none kV20 dc20 pm20 an20 cd20 ct20), sl20⟩)
  (c20 : PySem.W.codeIn K cd20 "_law_net_tree" = true) (k20 : PySem.W.keepIn K (.ref f20) = true)
  {f21 : Addr} {od21 an21 : Option Addr} {sl21 : Array (Option Value)} {oc21 kV21 dc21 pm21 cd21 ct21 : Value}
  (a21 : PySem.W.nsIn K mainGlobals "_law_tree" = some (some (.ref f21)))
  (l21 : K.lookup f21 = some ⟨oc21, od21, .func (PySem.W.fnOf "_law_tree" "_law_tree" (defArgs (top 30)) (defBody (top 30)) (defScope (top 30)) .none kV21 dc21 pm21 an21 cd21 ct21), sl21⟩)
  (c21 : PySem.W.codeIn K cd21 "_law_tree" = true) (k21 : PySem.W.keepIn K (.ref f21) = true)
  {f22 : Addr} {od22 an22 : Option Addr} {sl22 : Array (Option Value)} {oc22 kV22 dc22 pm22 cd22 ct22 : Value}
  (a22 : PySem.W.nsIn K mainGlobals "_law_ratio_words" = some (some (.ref f22)))
  (l22 : K.lookup f22 = some ⟨oc22, od22, .func (PySem.W.fnOf "_law_ratio_words" "_law_ratio_words" (defArgs (top 31)) (defBody (top 31)) (defScope (top 31)) .none kV22 dc22 pm22 an22 cd22 ct22), sl22⟩)
  (c22 : PySem.W.codeIn K cd22 "_law_ratio_words" = true) (k22 : PySem.W.keepIn K (.ref f22) = true)
  {f23 : Addr} {od23 an23 : Option Addr} {sl23 : Array (Option Value)} {oc23 kV23 dc23 pm23 cd23 ct23 : Value}
  (a23 : PySem.W.nsIn K mainGlobals "_law_bracketed" = some (some (.ref f23)))
  (l23 : K.lookup f23 = some ⟨oc23, od23, .func (PySem.W.fnOf "_law_bracketed" "_law_bracketed" (defArgs (top 32)) (defBody (top 32)) (defScope (top 32)) .none kV23 dc23 pm23 an23 cd23 ct23), sl23⟩)
  (c23 : PySem.W.codeIn K cd23 "_law_bracketed" = true) (k23 : PySem.W.keepIn K (.ref f23) = true)
  {f24 : Addr} {od24 an24 : Option Addr} {sl24 : Array (Option Value)} {oc24 kV24 dc24 pm24 cd24 ct24 : Value}
  (a24 : PySem.W.nsIn K mainGlobals "_law_term_words" = some (some (.ref f24)))
  (l24 : K.lookup f24 = some ⟨oc24, od24, .func (PySem.W.fnOf "_law_term_words" "_law_term_words" (defArgs (top 33)) (defBody (top 33)) (defScope (top 33)) .none kV24 dc24 pm24 an24 cd24 ct24), sl24⟩)
  (c24 : PySem.W.codeIn K cd24 "_law_term_words" = true) (k24 : PySem.W.keepIn K (.ref f24) = true)
  {f25 : Addr} {od25 an25 : Option Addr} {sl25 : Array (Option Value)} {oc25 kV25 dc25 pm25 cd25 ct25 : Value}
  (a25 : PySem.W.nsIn K mainGlobals "_law_expr_words" = some (some (.ref f25)))
  (l25 : K.lookup f25 = some ⟨oc25, od25, .func (PySem.W.fnOf "_law_expr_words" "_law_expr_words" (defArgs (top 34)) (defBody (top 34)) (defScope (top 34)) .none kV25 dc25 pm25 an25 cd25 ct25), sl25⟩)
  (c25 : PySem.W.codeIn K cd25 "_law_expr_words" = true) (k25 : PySem.W.keepIn K (.ref f25) = true)
  {f26 : Addr} {od26 an26 : Option Addr} {sl26 : Array (Option Value)} {oc26 kV26 dc26 pm26 cd26 ct26 : Value}
  (a26 : PySem.W.nsIn K mainGlobals "_law_claim_words" = some (some (.ref f26)))
  (l26 : K.lookup f26 = some ⟨oc26, od26, .func (PySem.W.fnOf "_law_claim_words" "_law_claim_words" (defArgs (top 35)) (defBody (top 35)) (defScope (top 35)) .none kV26 dc26 pm26 an26 cd26 ct26), sl26⟩)
  (c26 : PySem.W.codeIn K cd26 "_law_claim_words" = true) (k26 : PySem.W.keepIn K (.ref f26) = true)
  {f27 : Addr} {od27 an27 : Option Addr} {sl27 : Array (Option Value)} {oc27 kV27 dc27 pm27 cd27 ct27 : Value}
  (a27 : PySem.W.nsIn K mainGlobals "_law_tree_words" = some (some (.ref f27)))
  (l27 : K.lookup f27 = some ⟨oc27, od27, .func (PySem.W.fnOf "_law_tree_words" "_law_tree_words" (defArgs (top 36)) (defBody (top 36)) (defScope (top 36)) .none kV27 dc27 pm27 an27 cd27 ct27), sl27⟩)
  (c27 : PySem.W.codeIn K cd27 "_law_tree_words" = true) (k27 : PySem.W.keepIn K (.ref f27) = true)
  {f28 : Addr} {od28 an28 : Option Addr} {sl28 : Array (Option Value)} {oc28 kV28 dc28 pm28 cd28 ct28 : Value}
  (a28 : PySem.W.nsIn K mainGlobals "_law_text_of" = some (some (.ref f28)))
  (l28 : K.lookup f28 = some ⟨oc28, od28, .func (PySem.W.fnOf "_law_text_of" "_law_text_of" (defArgs (top 37)) (defBody (top 37)) (defScope (top 37)) .none kV28 dc28 pm28 an28 cd28 ct28), sl28⟩)
  (c28 : PySem.W.codeIn K cd28 "_law_text_of" = true) (k28 : PySem.W.keepIn K (.ref f28) = true)
  {f29 : Addr} {od29 an29 : Option Addr} {sl29 : Array (Option Value)} {oc29 kV29 dc29 pm29 cd29 ct29 : Value}
  (a29 : PySem.W.nsIn K mainGlobals "_law_gap" = some (some (.ref f29)))
  (l29 : K.lookup f29 = some ⟨oc29, od29, .func (PySem.W.fnOf "_law_gap" "_law_gap" (defArgs (top 38)) (defBody (top 38)) (defScope (top 38)) .none kV29 dc29 pm29 an29 cd29 ct29), sl29⟩)
  (c29 : PySem.W.codeIn K cd29 "_law_gap" = true) (k29 : PySem.W.keepIn K (.ref f29) = true)
  {f30 : Addr} {od30 an30 : Option Addr} {sl30 : Array (Option Value)} {oc30 kV30 dc30 pm30 cd30 ct30 : Value}
  (a30 : PySem.W.nsIn K mainGlobals "_law_loose_text" = some (some (.ref f30)))
  (l30 : K.lookup f30 = some ⟨oc30, od30, .func (PySem.W.fnOf "_law_loose_text" "_law_loose_text" (defArgs (top 39)) (defBody (top 39)) (defScope (top 39)) .none kV30 dc30 pm30 an30 cd30 ct30), sl30⟩)
  (c30 : PySem.W.codeIn K cd30 "_law_loose_text" = true) (k30 : PySem.W.keepIn K (.ref f30) = true)
  {f31 : Addr} {od31 an31 : Option Addr} {sl31 : Array (Option Value)} {oc31 kV31 dc31 pm31 cd31 ct31 : Value}
  (a31 : PySem.W.nsIn K mainGlobals "_law_words" = some (some (.ref f31)))
  (l31 : K.lookup f31 = some ⟨oc31, od31, .func (PySem.W.fnOf "_law_words" "_law_words" (defArgs (top 40)) (defBody (top 40)) (defScope (top 40)) .none kV31 dc31 pm31 an31 cd31 ct31), sl31⟩)
  (c31 : PySem.W.codeIn K cd31 "_law_words" = true) (k31 : PySem.W.keepIn K (.ref f31) = true)
  {f32 : Addr} {od32 an32 : Option Addr} {sl32 : Array (Option Value)} {oc32 kV32 dc32 pm32 cd32 ct32 : Value}
  (a32 : PySem.W.nsIn K mainGlobals "_law_spoilt" = some (some (.ref f32)))
  (l32 : K.lookup f32 = some ⟨oc32, od32, .func (PySem.W.fnOf "_law_spoilt" "_law_spoilt" (defArgs (top 41)) (defBody (top 41)) (defScope (top 41)) .none kV32 dc32 pm32 an32 cd32 ct32), sl32⟩)
  (c32 : PySem.W.codeIn K cd32 "_law_spoilt" = true) (k32 : PySem.W.keepIn K (.ref f32) = true)
  {f33 : Addr} {od33 an33 : Option Addr} {sl33 : Array (Option Value)} {oc33 kV33 dc33 pm33 cd33 ct33 : Value}
  (a33 : PySem.W.nsIn K mainGlobals "_law_told_ok" = some (some (.ref f33)))
  (l33 : K.lookup f33 = some ⟨oc33, od33, .func (PySem.W.fnOf "_law_told_ok" "_law_told_ok" (defArgs (top 42)) (defBody (top 42)) (defScope (top 42)) .none kV33 dc33 pm33 an33 cd33 ct33), sl33⟩)
  (c33 : PySem.W.codeIn K cd33 "_law_told_ok" = true) (k33 : PySem.W.keepIn K (.ref f33) = true)
  {f34 : Addr} {od34 an34 : Option Addr} {sl34 : Array (Option Value)} {oc34 kV34 dc34 pm34 cd34 ct34 : Value}
  (a34 : PySem.W.nsIn K mainGlobals "law" = some (some (.ref f34)))
  (l34 : K.lookup f34 = some ⟨oc34, od34, .func (PySem.W.fnOf "law" "law" (defArgs (top 43)) (defBody (top 43)) (defScope (top 43)) .none kV34 dc34 pm34 an34 cd34 ct34), sl34⟩)
  (c34 : PySem.W.codeIn K cd34 "law" = true) (k34 : PySem.W.keepIn K (.ref f34) = true)
  {qu0 : Value} (q0 : PySem.W.nsIn K mainGlobals "DIGITS" = some (some qu0)) (qe0 : atD qu0 = some c_DIGITS)
  {qu1 : Value} (q1 : PySem.W.nsIn K mainGlobals "LETTERS" = some (some qu1)) (qe1 : atD qu1 = some c_LETTERS)
  {qu2 : Value} (q2 : PySem.W.nsIn K mainGlobals "SIGNS" = some (some qu2)) (qe2 : atD qu2 = some c_SIGNS)
  {qa3 : Addr} {qo3 : Option Addr} {qi3 : Array Value} {qn3 : Nat} {qs3 : Array (Option Value)}
  (q3 : PySem.W.nsIn K mainGlobals "OWN_WORDS" = some (some (.ref qa3)))
  (ql3 : K.lookup qa3 = some ⟨.type "tuple", qo3, .seq qi3 qn3, qs3⟩) (qz3 : qi3.size ≤ 1000) (qe3 : atDs qi3.toList = some [(.str "abs"), (.str "and"), (.str "claim"), (.str "clip"), (.str "from"), (.str "in"), (.str "knee"), (.str "max"), (.str "min"), (.str "net"), (.str "no"), (.str "not"), (.str "or"), (.str "out"), (.str "to"), (.str "yes")])
  {qa4 : Addr} {qo4 : Option Addr} {qi4 : Array Value} {qn4 : Nat} {qs4 : Array (Option Value)}
  (q4 : PySem.W.nsIn K mainGlobals "TWO_SIGNS" = some (some (.ref qa4)))
  (ql4 : K.lookup qa4 = some ⟨.type "tuple", qo4, .seq qi4 qn4, qs4⟩) (qz4 : qi4.size ≤ 1000) (qe4 : atDs qi4.toList = some [(.str "<="), (.str ">="), (.str "!=")])
  {qu5 : Value} (q5 : PySem.W.nsIn K mainGlobals "ONE_SIGNS" = some (some qu5)) (qe5 : atD qu5 = some c_ONE_SIGNS)
  {qu6 : Value} (q6 : PySem.W.nsIn K mainGlobals "LONGEST_WORD" = some (some qu6)) (qe6 : atD qu6 = some c_LONGEST_WORD)
  (z0 : PySem.W.nsIn K mainGlobals "abs" = some none)
  (z1 : PySem.W.nsIn K mainGlobals "all" = some none)
  (z2 : PySem.W.nsIn K mainGlobals "bool" = some none)
  (z3 : PySem.W.nsIn K mainGlobals "int" = some none)
  (z4 : PySem.W.nsIn K mainGlobals "isinstance" = some none)
  (z5 : PySem.W.nsIn K mainGlobals "len" = some none)
  (z6 : PySem.W.nsIn K mainGlobals "list" = some none)
  (z7 : PySem.W.nsIn K mainGlobals "max" = some none)
  (z8 : PySem.W.nsIn K mainGlobals "min" = some none)
  (z9 : PySem.W.nsIn K mainGlobals "range" = some none)
  (z10 : PySem.W.nsIn K mainGlobals "str" = some none)
  (z11 : PySem.W.nsIn K mainGlobals "tuple" = some none) : prog.At K mg where
  at_ := ⟨df_mk (d := D_row_end) X G a0 l0 c0 k0 (fun us hl => match us, hl with | [_, _, _], _ => rfl),
    df_mk (d := D_letter_word) X G a1 l1 c1 k1 (fun us hl => match us, hl with | [_, _], _ => rfl),
    df_mk (d := D_figure_word) X G a2 l2 c2 k2 (fun us hl => match us, hl with | [_, _], _ => rfl),
    df_mk (d := D_word_from) X G a3 l3 c3 k3 (fun us hl => match us, hl with | [_, _], _ => rfl),
    df_mk (d := D_words_in) X G a4 l4 c4 k4 (fun us hl => match us, hl with | [_], _ => rfl),
    df_mk (d := D_words_of) X G a5 l5 c5 k5 (fun us hl => match us, hl with | [_], _ => rfl),
    df_mk (d := D__law_pen) X G a6 l6 c6 k6 (fun us hl => match us, hl with | [_], _ => rfl),
    df_mk (d := D__law_draw) X G a7 l7 c7 k7 (fun us hl => match us, hl with | [_, _], _ => rfl),
    df_mk (d := D__law_pick) X G a8 l8 c8 k8 (fun us hl => match us, hl with | [_, _], _ => rfl),
    df_mk (d := D__law_shuffled) X G a9 l9 c9 k9 (fun us hl => match us, hl with | [_, _], _ => rfl),
    df_mk (d := D__law_is_int) X G a10 l10 c10 k10 (fun us hl => match us, hl with | [_], _ => rfl),
    df_mk (d := D__law_gcd) X G a11 l11 c11 k11 (fun us hl => match us, hl with | [_, _], _ => rfl),
    df_mk (d := D__law_low) X G a12 l12 c12 k12 (fun us hl => match us, hl with | [_, _], _ => rfl),
    df_mk (d := D__law_add) X G a13 l13 c13 k13 (fun us hl => match us, hl with | [_, _], _ => rfl),
    df_mk (d := D__law_small_ratio) X G a14 l14 c14 k14 (fun us hl => match us, hl with | [_], _ => rfl),
    df_mk (d := D__law_leaf) X G a15 l15 c15 k15 (fun us hl => match us, hl with | [_, _], _ => rfl),
    df_mk (d := D__law_straight) X G a16 l16 c16 k16 (fun us hl => match us, hl with | [_, _, _], _ => rfl),
    df_mk (d := D__law_bending) X G a17 l17 c17 k17 (fun us hl => match us, hl with | [_, _, _, _], _ => rfl),
    df_mk (d := D__law_inputs_drawn) X G a18 l18 c18 k18 (fun us hl => match us, hl with | [_], _ => rfl),
    df_mk (d := D__law_claim_drawn) X G a19 l19 c19 k19 (fun us hl => match us, hl with | [_, _, _, _], _ => rfl),
    df_mk (d := D__law_net_tree) X G a20 l20 c20 k20 (fun us hl => match us, hl with | [_, _], _ => rfl),
    df_mk (d := D__law_tree) X G a21 l21 c21 k21 (fun us hl => match us, hl with | [_], _ => rfl),
    df_mk (d := D__law_ratio_words) X G a22 l22 c22 k22 (fun us hl => match us, hl with | [_], _ => rfl),
    df_mk (d := D__law_bracketed) X G a23 l23 c23 k23 (fun us hl => match us, hl with | [_, _, _, _, _], _ => rfl),
    df_mk (d := D__law_term_words) X G a24 l24 c24 k24 (fun us hl => match us, hl with | [_, _], _ => rfl),
    df_mk (d := D__law_expr_words) X G a25 l25 c25 k25 (fun us hl => match us, hl with | [_, _], _ => rfl),
    df_mk (d := D__law_claim_words) X G a26 l26 c26 k26 (fun us hl => match us, hl with | [_, _], _ => rfl),
    df_mk (d := D__law_tree_words) X G a27 l27 c27 k27 (fun us hl => match us, hl with | [_, _], _ => rfl),
    df_mk (d := D__law_text_of) X G a28 l28 c28 k28 (fun us hl => match us, hl with | [_], _ => rfl),
    df_mk (d := D__law_gap) X G a29 l29 c29 k29 (fun us hl => match us, hl with | [_, _, _], _ => rfl),
    df_mk (d := D__law_loose_text) X G a30 l30 c30 k30 (fun us hl => match us, hl with | [_, _], _ => rfl),
    df_mk (d := D__law_words) X G a31 l31 c31 k31 (fun us hl => match us, hl with | [_], _ => rfl),
    df_mk (d := D__law_spoilt) X G a32 l32 c32 k32 (fun us hl => match us, hl with | [_, _], _ => rfl),
    df_mk (d := D__law_told_ok) X G a33 l33 c33 k33 (fun us hl => match us, hl with | [_], _ => rfl),
    df_mk (d := D_law) X G a34 l34 c34 k34 (fun us hl => match us, hl with | [_], _ => rfl),
    trivial⟩
  tab := ⟨trivial, trivial, trivial, trivial, trivial, trivial, trivial, trivial, trivial, trivial, trivial, trivial, trivial, trivial, trivial, trivial, trivial, trivial, trivial, trivial, trivial, trivial, trivial, trivial, trivial, trivial, trivial, trivial, trivial, trivial, trivial, trivial, trivial, trivial, trivial, cst_at (PySem.W.mg_of X G q0) qe0, cst_at (PySem.W.mg_of X G q1) qe1, cst_at (PySem.W.mg_of X G q2) qe2, cst_tup (PySem.W.mg_of X G q3) ql3 qz3 qe3, cst_tup (PySem.W.mg_of X G q4) ql4 qz4 qe4, cst_at (PySem.W.mg_of X G q5) qe5, cst_at (PySem.W.mg_of X G q6) qe6, PySem.W.mg_none_of X G z0, PySem.W.mg_none_of X G z1, PySem.W.mg_none_of X G z2, PySem.W.mg_none_of X G z3, PySem.W.mg_none_of X G z4, PySem.W.mg_none_of X G z5, PySem.W.mg_none_of X G z6, PySem.W.mg_none_of X G z7, PySem.W.mg_none_of X G z8, PySem.W.mg_none_of X G z9, PySem.W.mg_none_of X G z10, PySem.W.mg_none_of X G z11, trivial⟩
end K44

/-! K44w -/
set_option maxHeartbeats 4000000
namespace K44
open PySem PySem.Spec PyProof.Rows L2 Kn

abbrev run (fu n i : Nat) (args : List Slot) : O R := runP prog.pr fu n i args
abbrev CC (fu n : Nat) : Cc := ⟨runP prog.pr fu n, fu⟩
theorem run_s {fu n i : Nat} {args : List Slot} {F : Fd} (h : prog.pr i = some F) : run fu (n + 1) i args = bodyRun F (CC fu n) args := runP_eq _ _ _ _ _ h
/-- row_end -/
theorem row_end_ok {fu : Nat} (hfu : 100000000 ≤ fu) (n k : Nat) (l z : List Nat) (h : l.length ≤ 16777216) :
    run fu (n + 1) 0 [.val (.str (mk l)), .val (.int (k : Int)), .val (.str (mk z))] = .ok (.val (.int ((k + ((l.drop k).takeWhile fun c => decide (c ∈ z)).length : Nat) : Int))) [.non, .non, .non] := by
  rw [run_s (F := ⟨3, 4, F_row_end⟩) rfl, bodyRun_eq]
  simp [F_row_end]
  refine whL_ind (P := fun o => finO 3 (o.bind _) = _) (fun m S => ∃ (mid r2 : List Nat) (j : Nat), l.drop k = mid ++ r2 ∧ j = k + mid.length ∧ (∀ x ∈ mid, decide (x ∈ z) = true) ∧ S = [.val (.str (mk l)), .val (.int (k : Int)), .val (.str (mk z)), .val (.int (j : Int))] ∧ m = r2.length) (n := (l.drop k).length) ?_ ⟨[], l.drop k, k, rfl, rfl, by simp, rfl, rfl⟩ ?_
  · rw [List.length_drop]; omega
  · rintro m S ⟨mid, r2, j, hd, hj, hm, rfl, rfl⟩
    have hg : l[j]? = r2[0]? := by
      have : (l.drop k)[mid.length]? = r2[0]? := by rw [hd, List.getElem?_append_right (Nat.le_refl _), Nat.sub_self]
      rw [List.getElem?_drop] at this
      rw [hj]
      exact this
    have ht : ∀ (p : Nat → Bool), (∀ x ∈ mid, p x = true) → (∀ c r', r2 = c :: r' → p c = false) → ((l.drop k).takeWhile p) = mid := fun p h1 h2 => by rw [hd]; exact takeWhile_mid p mid r2 h1 h2
    cases r2 with
    | nil =>
      have hlt : ¬ j < l.length := by
        intro q
        rw [List.getElem?_eq_getElem q] at hg
        cases hg
      have hlt' : ¬ ((j : Int) < (l.length : Int)) := by omega
      left
      refine ⟨_, by simp [gLen_mk h, hlt]; rfl, ?_⟩
      rw [ht _ hm (fun _ _ e => nomatch e)]
      simp [hj]
    | cons c r3 =>
      have hg : l[j]? = some c := hg
      have hlt : j < l.length := (List.getElem?_eq_some_iff.mp hg).1
      have gi := gIdx_at h hg
      by_cases hc : c ∈ z
      · right
        refine ⟨[.val (.str (mk l)), .val (.int (k : Int)), .val (.str (mk z)), .val (.int (j : Int))], by simp [gLen_mk h, gi, gIn_one, hc, hlt], .inl ⟨r3.length, _, .inl ?_, by simp, mid ++ [c], r3, j + 1, by rw [hd]; simp, by rw [List.length_append, hj]; rfl, ?_, rfl, rfl⟩⟩
        · simp
        · intro x hx
          rcases List.mem_append.mp hx with q | q
          · exact hm x q
          · simp at q; subst q; simpa using hc
      · left
        refine ⟨[.val (.str (mk l)), .val (.int (k : Int)), .val (.str (mk z)), .val (.int (j : Int))], by simp [gLen_mk h, gi, gIn_one, hc, hlt], ?_⟩
        rw [ht _ hm (fun _ _ e => by cases e; simpa using hc)]
        simp [hj]

/-! ### one word -/
def lettersL : List Nat := (Str.ofString "abcdefghijklmnopqrstuvwxyzABCDEFGHIJKLMNOPQRSTUVWXYZ").cps.toList
def digitsL : List Nat := (Str.ofString "0123456789").cps.toList
def signsL : List Nat := (Str.ofString "abcdefghijklmnopqrstuvwxyzABCDEFGHIJKLMNOPQRSTUVWXYZ0123456789_").cps.toList
def onesL : List Nat := (Str.ofString "{}()[];:,=<>+-*/").cps.toList
def ownDs : List D := [(.str "abs"), (.str "and"), (.str "claim"), (.str "clip"), (.str "from"), (.str "in"), (.str "knee"), (.str "max"), (.str "min"), (.str "net"), (.str "no"), (.str "not"), (.str "or"), (.str "out"), (.str "to"), (.str "yes")]
def twoDs : List D := [(.str "<="), (.str ">="), (.str "!=")]
def isOwn (s : Str) : Bool := ownDs.any fun y => eqD y (.str s)
def isTwo (s : Str) : Bool := twoDs.any fun y => eqD y (.str s)
theorem e_letters : c_LETTERS = .str (mk lettersL) := by kernel_rfl
theorem e_digits : c_DIGITS = .str (mk digitsL) := by kernel_rfl
theorem e_signs : c_SIGNS = .str (mk signsL) := by kernel_rfl
theorem e_ones : c_ONE_SIGNS = .str (mk onesL) := by kernel_rfl
theorem e_own : c_OWN_WORDS = .tup ownDs := rfl
theorem e_two : c_TWO_SIGNS = .tup twoDs := rfl
theorem e_long : c_LONGEST_WORD = .int 12 := rfl
theorem gIn_own (s : Str) : gIn (.str s) (.tup ownDs) = some (.val (.bl (isOwn s))) := by
  show (if flat (.str s) = true ∧ ownDs.all flat = true then some (ownDs.any fun y => eqD y (.str s)) else none).map _ = _
  rw [if_pos ⟨rfl, rfl⟩]
  rfl
theorem gIn_ownL (s : Str) : gIn (.str s) (.lst ownDs) = some (.val (.bl (isOwn s))) := by
  show (if flat (.str s) = true ∧ ownDs.all flat = true then some (ownDs.any fun y => eqD y (.str s)) else none).map _ = _
  rw [if_pos ⟨rfl, rfl⟩]
  rfl
theorem gIn_two (s : Str) : gIn (.str s) (.tup twoDs) = some (.val (.bl (isTwo s))) := by
  show (if flat (.str s) = true ∧ twoDs.all flat = true then some (twoDs.any fun y => eqD y (.str s)) else none).map _ = _
  rw [if_pos ⟨rfl, rfl⟩]
  rfl
theorem take_while {α : Type} (p : α → Bool) (l : List α) : l.take (l.takeWhile p).length = l.takeWhile p := (List.prefix_iff_eq_take.mp (List.takeWhile_prefix p)).symm
def spanS (cs : List Nat) : List Nat := cs.takeWhile fun c => decide (c ∈ signsL)
def spanD (cs : List Nat) : List Nat := cs.takeWhile fun c => decide (c ∈ digitsL)
theorem gSl_span {l : List Nat} {k : Nat} {w : List Nat} (h : l.length ≤ 16777216) (e : (l.drop k).take w.length = w) : gSl (.str (mk l)) (some (k : Int)) (some ((k + w.length : Nat) : Int)) = some (.val (.str (mk w))) := by
  rw [gSl_mk h (Nat.le_add_right _ _), Nat.add_sub_cancel_left, e]
theorem letter_word_ok {fu : Nat} (hfu : 100000000 ≤ fu) (n k : Nat) (l : List Nat) (h : l.length ≤ 16777216) :
    run fu (n + 2) 1 [.val (.str (mk l)), .val (.int (k : Int))] = .ok (.val (if 12 < (spanS (l.drop k)).length then .tup [.str "bad", .str "word"] else .tup [.str (if isOwn (mk (spanS (l.drop k))) = true then "own" else "name"), .str (mk (spanS (l.drop k)))])) [.non, .non] := by
  have re := row_end_ok hfu n k l signsL h
  have hw : (spanS (l.drop k)).length ≤ 16777216 := by
    have := List.IsPrefix.length_le (List.takeWhile_prefix (l := l.drop k) fun c => decide (c ∈ signsL))
    rw [List.length_drop] at this
    show ((l.drop k).takeWhile fun c => decide (c ∈ signsL)).length ≤ _
    omega
  have gs := gSl_span (k := k) (w := spanS (l.drop k)) h (by unfold spanS; exact take_while _ _)
  generalize hW : spanS (l.drop k) = w at *
  have hW' : ((l.drop k).takeWhile fun c => decide (c ∈ signsL)) = w := hW
  rw [hW'] at re
  generalize hj : ((k + w.length : Nat) : Int) = j at *
  rw [run_s (F := ⟨2, 3, F_letter_word⟩) rfl, bodyRun_eq]
  by_cases hl : 12 < w.length
  · have hl' : (12 : Int) < (w.length : Int) := by omega
    simp [F_letter_word, sSl, sPart, e_signs, e_long, re, gs, gLen_mk hw, hl, hl']
  · have hl' : ¬ (12 : Int) < (w.length : Int) := by omega
    cases ho : isOwn (mk w) <;> simp [F_letter_word, sSl, sPart, e_signs, e_long, e_own, re, gs, gLen_mk hw, hl, hl', gIn_own, ho]

def badNum (w : List Nat) : Bool := decide (12 < w.length) || (decide (1 < w.length) && w.head? == some 48)
theorem okD_mk {w : List Nat} (h : ∀ c ∈ w, c < 1114112) : okD (.str (mk w)) = true := by
  show (PyData.strOk (mk w) && decide (0 ≤ 64)) = true
  have : PyData.strOk (mk w) = true := by
    unfold PyData.strOk
    show (w.toArray.all fun x => decide (x < 1114112)) = true
    rw [List.all_toArray, List.all_eq_true]
    intro c hc
    exact decide_eq_true (h c hc)
  rw [this]
  rfl
theorem gEq_mk (a b : List Nat) (ha : ∀ c ∈ a, c < 1114112) (hb : ∀ c ∈ b, c < 1114112) : gEq (.str (mk a)) (.str (mk b)) = some (.val (.bl (a == b))) := by
  show (if okD (.str (mk a)) = true ∧ okD (.str (mk b)) = true then some (R.val (.bl (mk a == mk b))) else none) = _
  rw [if_pos ⟨okD_mk ha, okD_mk hb⟩]
  have : (mk a == mk b) = (a == b) := by
    rw [Bool.eq_iff_iff]
    simp [mk_eq]
  rw [this]
theorem gNe_mk (a b : List Nat) (ha : ∀ c ∈ a, c < 1114112) (hb : ∀ c ∈ b, c < 1114112) : gNe (.str (mk a)) (.str (mk b)) = some (.val (.bl (!(a == b)))) := by
  show (if okD (.str (mk a)) = true ∧ okD (.str (mk b)) = true then some (R.val (.bl (!(mk a == mk b)))) else none) = _
  rw [if_pos ⟨okD_mk ha, okD_mk hb⟩]
  have : (mk a == mk b) = (a == b) := by
    rw [Bool.eq_iff_iff]
    simp [mk_eq]
  rw [this]
theorem gEq_one (a b : Nat) (ha : a < 1114112) (hb : b < 1114112) : gEq (.str (mk [a])) (.str (mk [b])) = some (.val (.bl (a == b))) := by
  rw [gEq_mk [a] [b] (by simpa using ha) (by simpa using hb)]
  simp
theorem gNe_one (a b : Nat) (ha : a < 1114112) (hb : b < 1114112) : gNe (.str (mk [a])) (.str (mk [b])) = some (.val (.bl (!(a == b)))) := by
  rw [gNe_mk [a] [b] (by simpa using ha) (by simpa using hb)]
  simp
theorem figure_word_ok {fu : Nat} (hfu : 100000000 ≤ fu) (n k : Nat) (l : List Nat) (h : l.length ≤ 16777216) (ha : ∀ c ∈ l, c < 1114112) :
    run fu (n + 2) 2 [.val (.str (mk l)), .val (.int (k : Int))] = .ok (.val (if badNum (spanD (l.drop k)) = true then .tup [.str "bad", .str "number"] else .tup [.str "number", .str (mk (spanD (l.drop k)))])) [.non, .non] := by
  have re := row_end_ok hfu n k l digitsL h
  have hw : (spanD (l.drop k)).length ≤ 16777216 := by
    have := List.IsPrefix.length_le (List.takeWhile_prefix (l := l.drop k) fun c => decide (c ∈ digitsL))
    rw [List.length_drop] at this
    show ((l.drop k).takeWhile fun c => decide (c ∈ digitsL)).length ≤ _
    omega
  have gs := gSl_span (k := k) (w := spanD (l.drop k)) h (by unfold spanD; exact take_while _ _)
  have hm : ∀ c ∈ spanD (l.drop k), c < 1114112 := fun c hc => ha c (List.mem_of_mem_drop ((List.takeWhile_prefix (l := l.drop k) fun c => decide (c ∈ digitsL)).subset hc))
  generalize hW : spanD (l.drop k) = w at *
  have hW' : ((l.drop k).takeWhile fun c => decide (c ∈ digitsL)) = w := hW
  rw [hW'] at re
  generalize hj : ((k + w.length : Nat) : Int) = j at *
  have e0 : (D.str (Str.ofString "0")) = .str (mk [48]) := by kernel_rfl
  rw [run_s (F := ⟨2, 3, F_figure_word⟩) rfl, bodyRun_eq]
  by_cases hl : 12 < w.length
  · have hl' : (12 : Int) < (w.length : Int) := by omega
    simp [F_figure_word, sSl, sPart, e_digits, e_long, re, gs, gLen_mk hw, hl, hl', badNum]
  · have hl' : ¬ (12 : Int) < (w.length : Int) := by omega
    by_cases h1 : 1 < w.length
    · have h1' : (1 : Int) < (w.length : Int) := by omega
      obtain ⟨c, r, hw0⟩ : ∃ c r, w = c :: r := by
        cases w with
        | nil => cases h1
        | cons c r => exact ⟨c, r, rfl⟩
      have gi : gIdx (.str (mk w)) (.int 0) = some (.val (.str (mk [c]))) := gIdx_at (j := 0) hw (by rw [hw0]; rfl)
      have ge := gEq_one c 48 (hm c (by rw [hw0]; exact List.mem_cons_self)) (by decide)
      have hb : badNum w = (c == 48) := by
        unfold badNum
        rw [hw0] at hl h1 ⊢
        rw [decide_eq_false hl, decide_eq_true h1]
        simp
      cases hc : (c == 48) <;> rw [hc] at ge hb
      · simp [F_figure_word, sSl, sPart, e_digits, e_long, re, gs, gLen_mk hw, hl', h1', gi, e0, ge, hb]
      · simp [F_figure_word, sSl, sPart, e_digits, e_long, re, gs, gLen_mk hw, hl', h1', gi, e0, ge, hb]
    · have h1' : ¬ (1 : Int) < (w.length : Int) := by omega
      have : badNum w = false := by
        unfold badNum
        simp
        exact ⟨by omega, fun q => by omega⟩
      simp [F_figure_word, sSl, sPart, e_digits, e_long, re, gs, gLen_mk hw, hl, hl', h1', this]

/-- the next word: bad or not; its sort; what it is -/
def tok1 (cs : List Nat) : Bool × Str × Str := match cs with
  | [] => (true, "bad", "sign")
  | c :: r => if c ∈ lettersL then (if 12 < (spanS (c :: r)).length then (true, "bad", "word") else (false, if isOwn (mk (spanS (c :: r))) = true then "own" else "name", mk (spanS (c :: r))))
    else if c ∈ digitsL then (if badNum (spanD (c :: r)) = true then (true, "bad", "number") else (false, "number", mk (spanD (c :: r))))
    else if isTwo (mk ((c :: r).take 2)) = true then (false, "sign", mk ((c :: r).take 2)) else if c ∈ onesL then (false, "sign", mk [c]) else (true, "bad", "sign")
theorem word_from_ok {fu : Nat} (hfu : 100000000 ≤ fu) (n k : Nat) (l : List Nat) (h : l.length ≤ 16777216) (ha : ∀ c ∈ l, c < 1114112) (hk : k < l.length) :
    run fu (n + 3) 3 [.val (.str (mk l)), .val (.int (k : Int))] = .ok (.val (.tup [.str (tok1 (l.drop k)).2.1, .str (tok1 (l.drop k)).2.2])) [.non, .non] := by
  have lw := letter_word_ok hfu n k l h
  have fw := figure_word_ok hfu n k l h ha
  have e1 : l.drop k = l[k] :: l.drop (k + 1) := List.drop_eq_getElem_cons hk
  have gi : gIdx (.str (mk l)) (.int (k : Int)) = some (.val (.str (mk [l[k]]))) := gIdx_at h (List.getElem?_eq_getElem hk)
  have g2 : gSl (.str (mk l)) (some (k : Int)) (some ((k : Int) + 2)) = some (.val (.str (mk ((l.drop k).take 2)))) := by
    have := gSl_mk (l := l) (a := k) (b := k + 2) h (Nat.le_add_right _ _)
    rw [Nat.add_sub_cancel_left] at this
    exact this
  rw [run_s (F := ⟨2, 2, F_word_from⟩) rfl, bodyRun_eq]
  rw [e1] at lw fw g2 ⊢
  generalize l[k] = c at *
  generalize l.drop (k + 1) = r at *
  by_cases h1 : c ∈ lettersL
  · by_cases h2 : 12 < (spanS (c :: r)).length
    · rw [if_pos h2] at lw
      simp [F_word_from, e_letters, gi, gIn_one, h1, lw, tok1, h2]
    · rw [if_neg h2] at lw
      simp [F_word_from, e_letters, gi, gIn_one, h1, lw, tok1, h2]
  · by_cases h3 : c ∈ digitsL
    · by_cases h2 : badNum (spanD (c :: r)) = true
      · rw [if_pos h2] at fw
        simp [F_word_from, e_letters, e_digits, gi, gIn_one, h1, h3, fw, tok1, h2]
      · rw [if_neg h2] at fw
        simp [F_word_from, e_letters, e_digits, gi, gIn_one, h1, h3, fw, tok1, h2]
    · cases h4 : isTwo (mk ((c :: r).take 2)) with
      | true =>
        simp only [List.take_succ_cons] at h4 g2
        simp [F_word_from, sSl, sPart, e_letters, e_digits, e_two, gi, gIn_one, gIn_two, h1, h3, g2, h4, tok1]
      | false =>
        simp only [List.take_succ_cons] at h4 g2
        by_cases h5 : c ∈ onesL
        · simp [F_word_from, sSl, sPart, e_letters, e_digits, e_two, e_ones, gi, gIn_one, gIn_two, h1, h3, g2, h4, h5, tok1]
        · simp [F_word_from, sSl, sPart, e_letters, e_digits, e_two, e_ones, gi, gIn_one, gIn_two, h1, h3, g2, h4, h5, tok1]
end K44

/-! K44x -/
namespace K44
open PySem PySem.Spec PyProof.Rows L2 Kn

/-! ### all words -/
def row (s w : Str) (line col : Nat) : D := .tup [.str s, .str w, .int (line : Int), .int (col : Int)]
def remk (cs : List Nat) : List Nat := cs.takeWhile fun c => decide (c ≠ 10)
def toks : Nat → Nat → Nat → List Nat → List D
  | 0, _, _, _ => []
  | f + 1, line, col, cs => match cs with
    | [] => [row "end" "" line col]
    | c :: r => if c = 10 then toks f (line + 1) 0 r else if c = 32 then toks f line (col + 1) r
      else if c = 35 then toks f line (col + (remk (c :: r)).length) ((c :: r).drop (remk (c :: r)).length)
      else if (tok1 (c :: r)).1 = true then [row (tok1 (c :: r)).2.1 (tok1 (c :: r)).2.2 line col]
      else row (tok1 (c :: r)).2.1 (tok1 (c :: r)).2.2 line col :: toks f line (col + (tok1 (c :: r)).2.2.length) ((c :: r).drop (tok1 (c :: r)).2.2.length)
theorem spanS_pos {c : Nat} {r : List Nat} (h : c ∈ signsL) : 0 < (spanS (c :: r)).length := by
  unfold spanS
  rw [List.takeWhile_cons, if_pos (by simpa using h)]
  simp
theorem spanD_pos {c : Nat} {r : List Nat} (h : c ∈ digitsL) : 0 < (spanD (c :: r)).length := by
  unfold spanD
  rw [List.takeWhile_cons, if_pos (by simpa using h)]
  simp
theorem letters_signs : ∀ c ∈ lettersL, c ∈ signsL := by decide +kernel
theorem tok1_pos {c : Nat} {r : List Nat} (h : (tok1 (c :: r)).1 = false) : 0 < (tok1 (c :: r)).2.2.length := by
  unfold tok1 at h ⊢
  dsimp only at h ⊢
  by_cases h1 : c ∈ lettersL
  · rw [if_pos h1] at h ⊢
    by_cases h2 : 12 < (spanS (c :: r)).length
    · rw [if_pos h2] at h; cases h
    · rw [if_neg h2]
      show 0 < (mk _).length
      rw [mk_len]
      exact spanS_pos (letters_signs c h1)
  · rw [if_neg h1] at h ⊢
    by_cases h3 : c ∈ digitsL
    · rw [if_pos h3] at h ⊢
      by_cases h2 : badNum (spanD (c :: r)) = true
      · rw [if_pos h2] at h; cases h
      · rw [if_neg h2]
        show 0 < (mk _).length
        rw [mk_len]
        exact spanD_pos h3
    · rw [if_neg h3] at h ⊢
      by_cases h4 : isTwo (mk ((c :: r).take 2)) = true
      · rw [if_pos h4]
        show 0 < (mk _).length
        rw [mk_len]
        simp
      · rw [if_neg h4] at h ⊢
        by_cases h5 : c ∈ onesL
        · rw [if_pos h5]
          show 0 < (mk _).length
          rw [mk_len]
          simp
        · rw [if_neg h5] at h; cases h
theorem remk_pos {r : List Nat} : 0 < (remk (35 :: r)).length := by
  unfold remk
  rw [List.takeWhile_cons, if_pos (by decide)]
  simp
theorem toks_fuel : ∀ (f g line col : Nat) (cs : List Nat), cs.length < f → cs.length < g → toks f line col cs = toks g line col cs
  | 0, _, _, _, _, h, _ => absurd h (Nat.not_lt_zero _)
  | _, 0, _, _, _, _, h => absurd h (Nat.not_lt_zero _)
  | f + 1, g + 1, line, col, [], _, _ => rfl
  | f + 1, g + 1, line, col, c :: r, h1, h2 => by
    rw [List.length_cons] at h1 h2
    unfold toks
    dsimp only
    by_cases c1 : c = 10
    · rw [if_pos c1, if_pos c1]; exact toks_fuel f g _ _ _ (by omega) (by omega)
    rw [if_neg c1, if_neg c1]
    by_cases c2 : c = 32
    · rw [if_pos c2, if_pos c2]; exact toks_fuel f g _ _ _ (by omega) (by omega)
    rw [if_neg c2, if_neg c2]
    by_cases c3 : c = 35
    · subst c3
      have := remk_pos (r := r)
      rw [if_pos rfl, if_pos rfl]; exact toks_fuel f g _ _ _ (by rw [List.length_drop, List.length_cons]; omega) (by rw [List.length_drop, List.length_cons]; omega)
    rw [if_neg c3, if_neg c3]
    by_cases c4 : (tok1 (c :: r)).1 = true
    · rw [if_pos c4, if_pos c4]
    have := tok1_pos (c := c) (r := r) (by simpa using c4)
    rw [if_neg c4, if_neg c4]
    congr 1
    exact toks_fuel f g _ _ _ (by rw [List.length_drop, List.length_cons]; omega) (by rw [List.length_drop, List.length_cons]; omega)
def T (line col : Nat) (cs : List Nat) : List D := toks (cs.length + 1) line col cs
theorem T_nil (line col : Nat) : T line col [] = [row "end" "" line col] := rfl
theorem T_nl (line col : Nat) (r : List Nat) : T line col (10 :: r) = T (line + 1) 0 r := by
  show toks (r.length + 1 + 1) line col (10 :: r) = _
  unfold toks
  dsimp only
  rw [if_pos rfl]
  rfl
theorem T_sp (line col : Nat) (r : List Nat) : T line col (32 :: r) = T line (col + 1) r := by
  show toks (r.length + 1 + 1) line col (32 :: r) = _
  unfold toks
  dsimp only
  rw [if_neg (by decide), if_pos rfl]
  rfl
theorem T_rem (line col : Nat) (r : List Nat) : T line col (35 :: r) = T line (col + (remk (35 :: r)).length) ((35 :: r).drop (remk (35 :: r)).length) := by
  show toks (r.length + 1 + 1) line col (35 :: r) = _
  have := remk_pos (r := r)
  conv => lhs; unfold toks
  dsimp only
  rw [if_neg (by decide), if_neg (by decide), if_pos rfl]
  exact toks_fuel _ _ _ _ _ (by rw [List.length_drop, List.length_cons]; omega) (by omega)
theorem T_word (line col : Nat) {c : Nat} (r : List Nat) (h1 : c ≠ 10) (h2 : c ≠ 32) (h3 : c ≠ 35) : T line col (c :: r) = if (tok1 (c :: r)).1 = true then [row (tok1 (c :: r)).2.1 (tok1 (c :: r)).2.2 line col]
      else row (tok1 (c :: r)).2.1 (tok1 (c :: r)).2.2 line col :: T line (col + (tok1 (c :: r)).2.2.length) ((c :: r).drop (tok1 (c :: r)).2.2.length) := by
  show toks (r.length + 1 + 1) line col (c :: r) = _
  conv => lhs; unfold toks
  dsimp only
  rw [if_neg h1, if_neg h2, if_neg h3]
  by_cases c4 : (tok1 (c :: r)).1 = true
  · rw [if_pos c4, if_pos c4]
  have := tok1_pos (c := c) (r := r) (by simpa using c4)
  rw [if_neg c4, if_neg c4]
  congr 1
  exact toks_fuel _ _ _ _ _ (by rw [List.length_drop, List.length_cons]; omega) (by omega)
/-! ### a line's end does not change its words -/
theorem while_tail {p : Nat → Bool} {g : List Nat} (hp : p 10 = false) : ∀ a : List Nat, (a ++ 10 :: g).takeWhile p = a.takeWhile p
  | [] => by rw [List.nil_append, List.takeWhile_cons, hp]; rfl
  | x :: a => by
    rw [List.cons_append, List.takeWhile_cons, List.takeWhile_cons, while_tail hp a]
theorem isTwo_len {w : List Nat} (h : isTwo (mk w) = true) : w.length = 2 ∧ 10 ∉ w := by
  unfold isTwo twoDs at h
  simp only [List.any_cons, List.any_nil, Bool.or_false, Bool.or_eq_true] at h
  have key : ∀ (x : List Nat) (s : Str), s = mk x → eqD (.str s) (.str (mk w)) = true → w = x := fun x s e q => by
    subst e
    have q' : (mk x == mk w) = true := q
    rw [beq_iff_eq] at q'
    exact (mk_inj q').symm
  rcases h with h | h | h
  · rw [key [60, 61] _ (by decide +kernel) h]; decide
  · rw [key [62, 61] _ (by decide +kernel) h]; decide
  · rw [key [33, 61] _ (by decide +kernel) h]; decide
theorem not10 : (10 : Nat) ∉ signsL ∧ (10 : Nat) ∉ digitsL := by decide +kernel
theorem tok1_tail (c : Nat) (a g : List Nat) : tok1 (c :: a ++ 10 :: g) = tok1 (c :: a) := by
  have h1 : spanS (c :: a ++ 10 :: g) = spanS (c :: a) := while_tail (by simpa using not10.1) (c :: a)
  have h2 : spanD (c :: a ++ 10 :: g) = spanD (c :: a) := while_tail (by simpa using not10.2) (c :: a)
  have h3 : isTwo (mk ((c :: a ++ 10 :: g).take 2)) = isTwo (mk ((c :: a).take 2)) ∧ (isTwo (mk ((c :: a).take 2)) = true → (c :: a ++ 10 :: g).take 2 = (c :: a).take 2) := by
    cases a with
    | nil =>
      have e1 : isTwo (mk [c, 10]) = false := by
        cases q : isTwo (mk [c, 10]) with
        | false => rfl
        | true => exact absurd (isTwo_len q).2 (by simp)
      have e2 : isTwo (mk [c]) = false := by
        cases q : isTwo (mk [c]) with
        | false => rfl
        | true => exact absurd (isTwo_len q).1 (by simp)
      refine ⟨?_, fun q => ?_⟩
      · show isTwo (mk [c, 10]) = isTwo (mk [c])
        rw [e1, e2]
      · have q : isTwo (mk [c]) = true := q
        rw [e2] at q; cases q
    | cons x a => exact ⟨rfl, fun _ => rfl⟩
  have e : c :: a ++ 10 :: g = c :: (a ++ 10 :: g) := rfl
  rw [e] at h1 h2 h3 ⊢
  unfold tok1
  dsimp only
  rw [h1, h2, h3.1]
  by_cases q : isTwo (mk ((c :: a).take 2)) = true
  · rw [h3.2 q]
  · rw [if_neg q, if_neg q]
/-- a loop that moves on while the signs are such -/
theorem adv_ok {C : Cc} {c : Sb} {body : Sg} {p : Nat → Bool} {l : List Nat} (S9 : Nat → Kn.Env) (hc : ∀ j, c C (S9 j) = .ok (match l[j]? with
    | some x => p x
    | none => false) (S9 j)) (hb : ∀ j, body C (S9 j) = .nx (S9 (j + 1))) {fuel k : Nat} (hf : l.length < fuel) : whL C c body fuel (S9 k) = .nx (S9 (k + ((l.drop k).takeWhile p).length)) := by
  refine whL_ind (P := fun o => o = .nx (S9 (k + ((l.drop k).takeWhile p).length))) (fun m S => ∃ (mid r2 : List Nat) (j : Nat), l.drop k = mid ++ r2 ∧ j = k + mid.length ∧ (∀ x ∈ mid, p x = true) ∧ S = S9 j ∧ m = r2.length) (n := (l.drop k).length) ?_ ⟨[], l.drop k, k, rfl, rfl, by simp, rfl, rfl⟩ ?_
  · rw [List.length_drop]; omega
  · rintro m S ⟨mid, r2, j, hd, hj, hm, rfl, rfl⟩
    have hg : l[j]? = r2[0]? := by
      have : (l.drop k)[mid.length]? = r2[0]? := by rw [hd, List.getElem?_append_right (Nat.le_refl _), Nat.sub_self]
      rw [List.getElem?_drop] at this
      rw [hj]
      exact this
    have ht : (∀ c r', r2 = c :: r' → p c = false) → ((l.drop k).takeWhile p) = mid := fun h2 => by rw [hd]; exact Kn.takeWhile_mid p mid r2 hm h2
    have hcj := hc j
    cases r2 with
    | nil =>
      left
      refine ⟨S9 j, by rw [hcj, hg]; rfl, ?_⟩
      rw [ht (fun _ _ e => nomatch e), hj]
    | cons x r3 =>
      have hg : l[j]? = some x := hg
      cases hx : p x with
      | true =>
        right
        refine ⟨S9 j, by rw [hcj, hg]; simp only [hx], .inl ⟨r3.length, _, .inl (hb j), by simp, mid ++ [x], r3, j + 1, by rw [hd]; simp, by rw [List.length_append, hj]; rfl, ?_, rfl, rfl⟩⟩
        intro y hy
        rcases List.mem_append.mp hy with q | q
        · exact hm y q
        · simp at q; subst q; exact hx
      | false =>
        left
        refine ⟨S9 j, by rw [hcj, hg]; simp only [hx], ?_⟩
        rw [ht (fun _ _ e => by cases e; exact hx), hj]
end K44

/-! K44y -/
namespace K44
open PySem PySem.Spec PyProof.Rows L2 Kn

/-! ### the own reader -/
theorem own_split : gSplit "abs and claim clip from in knee max min net no not or out to yes" (.str " ") = some (.fr (.lst ownDs)) := by kernel_rfl
theorem signs_cat : gAdd (.str "abcdefghijklmnopqrstuvwxyzABCDEFGHIJKLMNOPQRSTUVWXYZ") (.str "0123456789") = some (.val (.str "abcdefghijklmnopqrstuvwxyzABCDEFGHIJKLMNOPQRSTUVWXYZ0123456789")) := by kernel_rfl
theorem signs_cat2 : gAdd (.str "abcdefghijklmnopqrstuvwxyzABCDEFGHIJKLMNOPQRSTUVWXYZ0123456789") (.str "_") = some (.val (.str "abcdefghijklmnopqrstuvwxyzABCDEFGHIJKLMNOPQRSTUVWXYZ0123456789_")) := by kernel_rfl
theorem s_nl : (D.str (Str.ofString "\n")) = .str (mk [10]) := by kernel_rfl
theorem s_rem : (D.str (Str.ofString "#")) = .str (mk [35]) := by kernel_rfl
theorem s_sp : (D.str (Str.ofString " ")) = .str (mk [32]) := by kernel_rfl
theorem s_0 : (D.str (Str.ofString "0")) = .str (mk [48]) := by kernel_rfl
theorem in_letters {c : Nat} : gIn (.str (mk [c])) (.str "abcdefghijklmnopqrstuvwxyzABCDEFGHIJKLMNOPQRSTUVWXYZ") = some (.val (.bl (decide (c ∈ lettersL)))) := gIn_one
theorem in_digits {c : Nat} : gIn (.str (mk [c])) (.str "0123456789") = some (.val (.bl (decide (c ∈ digitsL)))) := gIn_one
theorem in_signs {c : Nat} : gIn (.str (mk [c])) (.str "abcdefghijklmnopqrstuvwxyzABCDEFGHIJKLMNOPQRSTUVWXYZ0123456789_") = some (.val (.bl (decide (c ∈ signsL)))) := gIn_one
theorem notin_ones {c : Nat} : gNotIn (.str (mk [c])) (.str "{}()[];:,=<>+-*/") = some (.val (.bl (!decide (c ∈ onesL)))) := gNotIn_one
def lwE (l : List Nat) (found : List D) (line col k : Nat) (s8 s9 s10 : Slot) : Kn.Env := [.val (.str (mk l)), .own (.lst ownDs), .val (.str "abcdefghijklmnopqrstuvwxyzABCDEFGHIJKLMNOPQRSTUVWXYZ"), .val (.str "0123456789"), .own (.lst found), .val (.int (line : Int)), .val (.int (col : Int)), .val (.int (k : Int)), s8, s9, s10]

section
variable {c : Nat} (h : c < 1114112)
include h
theorem eq_nl : gEq (.str (mk [c])) (.str "\n") = some (.val (.bl (c == 10))) := by
  have e : (D.str (Str.ofString "\n")) = .str (mk [10]) := by kernel_rfl
  rw [e]; exact gEq_one c 10 h (by decide)
theorem ne_nl : gNe (.str (mk [c])) (.str "\n") = some (.val (.bl (!(c == 10)))) := by
  have e : (D.str (Str.ofString "\n")) = .str (mk [10]) := by kernel_rfl
  rw [e]; exact gNe_one c 10 h (by decide)
theorem eq_rem : gEq (.str (mk [c])) (.str "#") = some (.val (.bl (c == 35))) := by
  have e : (D.str (Str.ofString "#")) = .str (mk [35]) := by kernel_rfl
  rw [e]; exact gEq_one c 35 h (by decide)
theorem ne_rem : gNe (.str (mk [c])) (.str "#") = some (.val (.bl (!(c == 35)))) := by
  have e : (D.str (Str.ofString "#")) = .str (mk [35]) := by kernel_rfl
  rw [e]; exact gNe_one c 35 h (by decide)
theorem eq_sp : gEq (.str (mk [c])) (.str " ") = some (.val (.bl (c == 32))) := by
  have e : (D.str (Str.ofString " ")) = .str (mk [32]) := by kernel_rfl
  rw [e]; exact gEq_one c 32 h (by decide)
theorem ne_sp : gNe (.str (mk [c])) (.str " ") = some (.val (.bl (!(c == 32)))) := by
  have e : (D.str (Str.ofString " ")) = .str (mk [32]) := by kernel_rfl
  rw [e]; exact gNe_one c 32 h (by decide)
theorem eq_0 : gEq (.str (mk [c])) (.str "0") = some (.val (.bl (c == 48))) := by
  have e : (D.str (Str.ofString "0")) = .str (mk [48]) := by kernel_rfl
  rw [e]; exact gEq_one c 48 h (by decide)
end
abbrev cRem : Sb := sAndT (sB (sOp2 gLt (sVar 9) (sBi gLen (sRCons (sVar 0) sRNil)))) (sB (sOp2 gNe (sOp2 gIdx (sVar 0) (sVar 9)) (sC (.str "\n"))))
abbrev cSig : Sb := sAndT (sB (sOp2 gLt (sVar 9) (sBi gLen (sRCons (sVar 0) sRNil)))) (sB (sOp2 gIn (sOp2 gIdx (sVar 0) (sVar 9)) (sOp2 gAdd (sOp2 gAdd (sVar 2) (sVar 3)) (sC (.str "_")))))
abbrev cDig : Sb := sAndT (sB (sOp2 gLt (sVar 9) (sBi gLen (sRCons (sVar 0) sRNil)))) (sB (sOp2 gIn (sOp2 gIdx (sVar 0) (sVar 9)) (sVar 3)))
abbrev advB : Sg := sSet 9 (sOp2 gAdd (sVar 9) (sC (.int 1)))
section
variable {fu n line col k j : Nat} (hfu : 100000000 ≤ fu) {l : List Nat} {found : List D} {s8 s10 : Slot} (h : l.length ≤ 1000000) (ha : ∀ c ∈ l, c < 1114112)
include h ha
theorem adv_b (j : Nat) : advB (CC fu n) (lwE l found line col k s8 (.val (.int (j : Int))) s10) = .nx (lwE l found line col k s8 (.val (.int ((j + 1 : Nat) : Int))) s10) := by
  simp [lwE]
theorem c_rem (j : Nat) : cRem (CC fu n) (lwE l found line col k s8 (.val (.int (j : Int))) s10) = .ok (match l[j]? with
    | some x => decide (x ≠ 10)
    | none => false) (lwE l found line col k s8 (.val (.int (j : Int))) s10) := by
  by_cases hj : j < l.length
  · have e : l[j]? = some l[j] := List.getElem?_eq_getElem hj
    have hc := ha l[j] (List.getElem_mem hj)
    generalize l[j] = c at *
    have gi := gIdx_at (by omega : l.length ≤ 16777216) e
    rw [e]
    by_cases q : c = 10
    · have hb : (c == 10) = true := by simpa using q
      have hd : decide (c ≠ 10) = false := by simpa using q
      simp only [hd]
      simp [lwE, gLen_mk (by omega : l.length ≤ 16777216), hj, gi, ne_nl hc, hb]
    · have hb : (c == 10) = false := by simpa using q
      have hd : decide (c ≠ 10) = true := by simpa using q
      simp only [hd]
      simp [lwE, gLen_mk (by omega : l.length ≤ 16777216), hj, gi, ne_nl hc, hb]
  · have e : l[j]? = none := List.getElem?_eq_none (by omega)
    simp [lwE, gLen_mk (by omega : l.length ≤ 16777216), hj, e]
theorem c_sig (j : Nat) : cSig (CC fu n) (lwE l found line col k s8 (.val (.int (j : Int))) s10) = .ok (match l[j]? with
    | some x => decide (x ∈ signsL)
    | none => false) (lwE l found line col k s8 (.val (.int (j : Int))) s10) := by
  by_cases hj : j < l.length
  · have e : l[j]? = some l[j] := List.getElem?_eq_getElem hj
    generalize l[j] = c at *
    have gi := gIdx_at (by omega : l.length ≤ 16777216) e
    rw [e]
    by_cases q : c ∈ signsL
    · simp [lwE, gLen_mk (by omega : l.length ≤ 16777216), hj, gi, signs_cat, signs_cat2, in_signs, q]
    · simp [lwE, gLen_mk (by omega : l.length ≤ 16777216), hj, gi, signs_cat, signs_cat2, in_signs, q]
  · have e : l[j]? = none := List.getElem?_eq_none (by omega)
    simp [lwE, gLen_mk (by omega : l.length ≤ 16777216), hj, e]
theorem c_dig (j : Nat) : cDig (CC fu n) (lwE l found line col k s8 (.val (.int (j : Int))) s10) = .ok (match l[j]? with
    | some x => decide (x ∈ digitsL)
    | none => false) (lwE l found line col k s8 (.val (.int (j : Int))) s10) := by
  by_cases hj : j < l.length
  · have e : l[j]? = some l[j] := List.getElem?_eq_getElem hj
    generalize l[j] = c at *
    have gi := gIdx_at (by omega : l.length ≤ 16777216) e
    rw [e]
    by_cases q : c ∈ digitsL
    · simp [lwE, gLen_mk (by omega : l.length ≤ 16777216), hj, gi, in_digits, q]
    · simp [lwE, gLen_mk (by omega : l.length ≤ 16777216), hj, gi, in_digits, q]
  · have e : l[j]? = none := List.getElem?_eq_none (by omega)
    simp [lwE, gLen_mk (by omega : l.length ≤ 16777216), hj, e]
include hfu in
theorem a_rem : whL (CC fu n) cRem advB fu (lwE l found line col k s8 (.val (.int (j : Int))) s10) = .nx (lwE l found line col k s8 (.val (.int ((j + (remk (l.drop j)).length : Nat) : Int))) s10) :=
  adv_ok (fun i => lwE l found line col k s8 (.val (.int (i : Int))) s10) (c_rem h ha) (adv_b h ha) (by omega)
include hfu in
theorem a_sig : whL (CC fu n) cSig advB fu (lwE l found line col k s8 (.val (.int (j : Int))) s10) = .nx (lwE l found line col k s8 (.val (.int ((j + (spanS (l.drop j)).length : Nat) : Int))) s10) :=
  adv_ok (fun i => lwE l found line col k s8 (.val (.int (i : Int))) s10) (c_sig h ha) (adv_b h ha) (by omega)
include hfu in
theorem a_dig : whL (CC fu n) cDig advB fu (lwE l found line col k s8 (.val (.int (j : Int))) s10) = .nx (lwE l found line col k s8 (.val (.int ((j + (spanD (l.drop j)).length : Nat) : Int))) s10) :=
  adv_ok (fun i => lwE l found line col k s8 (.val (.int (i : Int))) s10) (c_dig h ha) (adv_b h ha) (by omega)
end

theorem spanS_cons {c : Nat} {r : List Nat} (h : c ∈ signsL) : spanS (c :: r) = c :: spanS r := by
  unfold spanS
  rw [List.takeWhile_cons, if_pos (by simpa using h)]
theorem spanD_cons {c : Nat} {r : List Nat} (h : c ∈ digitsL) : spanD (c :: r) = c :: spanD r := by
  unfold spanD
  rw [List.takeWhile_cons, if_pos (by simpa using h)]
theorem remk_cons {c : Nat} {r : List Nat} (h : c ≠ 10) : remk (c :: r) = c :: remk r := by
  unfold remk
  rw [List.takeWhile_cons, if_pos (by simpa using h)]
theorem row_eq (s w : Str) (line col : Nat) : row s w line col = .tup [.str s, .str w, .int (line : Int), .int (col : Int)] := rfl
theorem sepc : ∀ c ∈ lettersL ++ digitsL, c ≠ 10 ∧ c ≠ 32 ∧ c ≠ 35 := by decide +kernel
theorem law_words_ok {fu : Nat} (hfu : 100000000 ≤ fu) (n : Nat) (l : List Nat) (h : l.length ≤ 1000000) (ha : ∀ c ∈ l, c < 1114112) : run fu (n + 1) 31 [.val (.str (mk l))] = .ok (.fr (.lst (T 0 0 l))) [.non] := by
  have h' : l.length ≤ 16777216 := by omega
  rw [run_s (F := ⟨1, 11, F__law_words⟩) rfl, bodyRun_eq]
  simp [F__law_words, own_split]
  refine whL_ind (P := fun o => finO 1 (o.bind _) = _) (fun m S => ∃ (found : List D) (line col k : Nat) (s8 s9 s10 : Slot), free s8 = true ∧ free s9 = true ∧ free s10 = true ∧ S = lwE l found line col k s8 s9 s10 ∧ found.length ≤ k ∧ k ≤ l.length ∧ found ++ T line col (l.drop k) = T 0 0 l ∧ m = l.length - k) (n := l.length) (by omega) ⟨[], 0, 0, 0, .non, .non, .non, rfl, rfl, rfl, rfl, Nat.le_refl _, Nat.zero_le _, rfl, by omega⟩ ?_
  rintro m S ⟨found, line, col, k, s8, s9, s10, f8, f9, f10, rfl, hf, hk, ht, rfl⟩
  by_cases hlt : k < l.length
  · right
    have e : l[k]? = some l[k] := List.getElem?_eq_getElem hlt
    have hc := ha l[k] (List.getElem_mem hlt)
    have hd : l.drop k = l[k] :: l.drop (k + 1) := List.drop_eq_getElem_cons hlt
    have gi := gIdx_at h' e
    refine ⟨lwE l found line col k s8 s9 s10, by simp [lwE, gLen_mk h', hlt], ?_⟩
    rw [hd] at ht
    generalize l[k] = c at *
    by_cases c1 : c = 10
    · subst c1
      rw [T_nl] at ht
      refine .inl ⟨l.length - (k + 1), lwE l found (line + 1) 0 (k + 1) (.val (.str (mk [10]))) (.val (.int ((k + 1 : Nat) : Int))) (.val .non), .inr ?_, by omega, found, line + 1, 0, k + 1, _, _, _, rfl, rfl, rfl, rfl, by omega, by omega, ht, rfl⟩
      simp [lwE, gi, f8, f9, f10, eq_nl hc]
    have b1 : (c == 10) = false := by simpa using c1
    have hr : (l.drop (k + 1)).length = l.length - (k + 1) := List.length_drop
    by_cases c3 : c = 35
    · subst c3
      rw [T_rem, remk_cons (by decide), List.length_cons, List.drop_succ_cons, List.drop_drop] at ht
      have ar := a_rem hfu (n := n) (line := line) (col := col) (k := k) (j := k + 1) (found := found) (s8 := .val (.str (mk [35]))) (s10 := .val .non) h ha
      have hm : (remk (l.drop (k + 1))).length ≤ (l.drop (k + 1)).length := List.IsPrefix.length_le (List.takeWhile_prefix _)
      generalize (remk (l.drop (k + 1))).length = m at *
      refine .inl ⟨l.length - (k + 1 + m), lwE l found line (col + (m + 1)) (k + 1 + m) (.val (.str (mk [35]))) (.val (.int ((k + 1 + m : Nat) : Int))) (.val .non), .inl ?_, by omega, found, line, col + (m + 1), k + 1 + m, _, _, _, rfl, rfl, rfl, rfl, by omega, by omega, ht, rfl⟩
      simp [lwE] at ar
      simp [lwE, gi, f8, f9, f10, eq_nl hc, eq_rem hc, ar, gNotN, isN]
      omega
    have b3 : (c == 35) = false := by simpa using c3
    by_cases c2 : c = 32
    · subst c2
      rw [T_sp] at ht
      refine .inl ⟨l.length - (k + 1), lwE l found line (col + 1) (k + 1) (.val (.str (mk [32]))) (.val (.int ((k + 1 : Nat) : Int))) (.val .non), .inl ?_, by omega, found, line, col + 1, k + 1, _, _, _, rfl, rfl, rfl, rfl, by omega, by omega, ht, rfl⟩
      have q1 : (32 : Nat) ∉ lettersL := by decide +kernel
      have q2 : (32 : Nat) ∉ digitsL := by decide +kernel
      simp [lwE, gi, f8, f9, f10, eq_nl hc, eq_rem hc, in_letters, in_digits, q1, q2, ne_sp hc, gNotN, isN]
      omega
    have b2 : (c == 32) = false := by simpa using c2
    rw [T_word _ _ _ c1 c2 c3] at ht
    have hz : found.length + 1 ≤ 16777216 := by omega
    have hz' : found.length < 16777216 := by omega
    by_cases h1 : c ∈ lettersL
    · have as := a_sig hfu (n := n) (line := line) (col := col) (k := k) (j := k + 1) (found := found) (s8 := .val (.str (mk [c]))) (s10 := .val .non) h ha
      have hm : (spanS (l.drop (k + 1))).length ≤ (l.drop (k + 1)).length := List.IsPrefix.length_le (List.takeWhile_prefix _)
      have hw : spanS (c :: l.drop (k + 1)) = c :: spanS (l.drop (k + 1)) := spanS_cons (letters_signs c h1)
      have gs := gSl_span (k := k) (w := spanS (c :: l.drop (k + 1))) h' (by rw [hd]; unfold spanS; exact take_while _ _)
      have hwl : (spanS (c :: l.drop (k + 1))).length = (spanS (l.drop (k + 1))).length + 1 := by rw [hw]; rfl
      rw [hwl] at gs
      simp only [tok1, if_pos h1, hwl] at ht
      generalize spanS (c :: l.drop (k + 1)) = w at *
      generalize (spanS (l.drop (k + 1))).length = m at *
      simp [lwE] at as
      have gs' : gSl (.str (mk l)) (some (k : Int)) (some ((k : Int) + 1 + (m : Int))) = some (.val (.str (mk w))) := by
        rw [← gs]
        congr 1
        push_cast
        congr 1
        omega
      by_cases hl : 12 < m + 1
      · have hl' : (12 : Int) < (k : Int) + 1 + (m : Int) - (k : Int) := by omega
        rw [if_pos hl] at ht
        refine .inr (.inr ⟨.fr (.lst (T 0 0 l)), lwE l found line col k (.val (.str (mk [c]))) (.val (.int ((k : Int) + 1 + (m : Int)))) (.val (.str (if isOwn (mk w) = true then "own" else "name"))), ?_, by simp [lwE]⟩)
        rw [← ht]
        cases ho : isOwn (mk w) <;> simp [lwE, gi, f8, f9, f10, eq_nl hc, b1, eq_rem hc, b3, in_letters, h1, as, gs', gIn_ownL, ho, hl', gAdd, hz, row_eq]
      · have hl' : ¬ (12 : Int) < (k : Int) + 1 + (m : Int) - (k : Int) := by omega
        rw [if_neg hl] at ht
        have ht' : (found ++ [row (if isOwn (mk w) = true then "own" else "name") (mk w) line col]) ++ T line (col + (m + 1)) (l.drop (k + 1 + m)) = T 0 0 l := by
          rw [← ht]
          simp [hwl, List.drop_drop]
        refine .inl ⟨l.length - (k + 1 + m), lwE l (found ++ [row (if isOwn (mk w) = true then "own" else "name") (mk w) line col]) line (col + (m + 1)) (k + 1 + m) (.val (.str (mk [c]))) (.val (.int ((k + 1 + m : Nat) : Int))) (.val (.str (if isOwn (mk w) = true then "own" else "name"))), .inl ?_, by omega, _, line, col + (m + 1), k + 1 + m, _, _, _, rfl, rfl, rfl, rfl, by simp; omega, by omega, ht', rfl⟩
        cases ho : isOwn (mk w) <;> simp [lwE, gi, f8, f9, f10, eq_nl hc, b1, eq_rem hc, b3, in_letters, h1, as, gs', gIn_ownL, ho, hl', gNotN, isN, hz', row_eq] <;> omega
    by_cases h4 : c ∈ digitsL
    · have as := a_dig hfu (n := n) (line := line) (col := col) (k := k) (j := k + 1) (found := found) (s8 := .val (.str (mk [c]))) (s10 := .val .non) h ha
      have hm : (spanD (l.drop (k + 1))).length ≤ (l.drop (k + 1)).length := List.IsPrefix.length_le (List.takeWhile_prefix _)
      have hw : spanD (c :: l.drop (k + 1)) = c :: spanD (l.drop (k + 1)) := spanD_cons h4
      have gs := gSl_span (k := k) (w := spanD (c :: l.drop (k + 1))) h' (by rw [hd]; unfold spanD; exact take_while _ _)
      have hwl : (spanD (c :: l.drop (k + 1))).length = (spanD (l.drop (k + 1))).length + 1 := by rw [hw]; rfl
      have hbn : badNum (spanD (c :: l.drop (k + 1))) = (decide (12 < (spanD (l.drop (k + 1))).length + 1) || (decide (1 < (spanD (l.drop (k + 1))).length + 1) && c == 48)) := by
        unfold badNum
        rw [hwl, hw]
        simp
      rw [hwl] at gs
      simp only [tok1, if_neg h1, if_pos h4] at ht
      rw [hbn] at ht
      generalize spanD (c :: l.drop (k + 1)) = w at *
      generalize (spanD (l.drop (k + 1))).length = m at *
      simp [lwE] at as
      have gs' : gSl (.str (mk l)) (some (k : Int)) (some ((k : Int) + 1 + (m : Int))) = some (.val (.str (mk w))) := by
        rw [← gs]
        congr 1
        push_cast
        congr 1
        omega
      by_cases hl : 12 < m + 1
      · have hl' : (12 : Int) < (k : Int) + 1 + (m : Int) - (k : Int) := by omega
        rw [decide_eq_true hl, Bool.true_or, if_pos rfl] at ht
        refine .inr (.inr ⟨.fr (.lst (T 0 0 l)), lwE l found line col k (.val (.str (mk [c]))) (.val (.int ((k : Int) + 1 + (m : Int)))) (.val (.str "number")), ?_, by simp [lwE]⟩)
        rw [← ht]
        simp [lwE, gi, f8, f9, f10, eq_nl hc, b1, eq_rem hc, b3, in_letters, in_digits, h1, h4, as, hl', gAdd, hz, row_eq]
      have hl' : ¬ (12 : Int) < (k : Int) + 1 + (m : Int) - (k : Int) := by omega
      rw [decide_eq_false hl, Bool.false_or] at ht
      cases hq : (c == 48 && decide (1 < m + 1)) with
      | true =>
        rw [Bool.and_eq_true, decide_eq_true_eq] at hq
        have hq' : (1 : Int) < (k : Int) + 1 + (m : Int) - (k : Int) := by omega
        rw [hq.1, decide_eq_true hq.2, Bool.and_self, if_pos rfl] at ht
        refine .inr (.inr ⟨.fr (.lst (T 0 0 l)), lwE l found line col k (.val (.str (mk [c]))) (.val (.int ((k : Int) + 1 + (m : Int)))) (.val (.str "number")), ?_, by simp [lwE]⟩)
        rw [← ht]
        simp [lwE, gi, f8, f9, f10, eq_nl hc, b1, eq_rem hc, b3, in_letters, in_digits, h1, h4, as, hl', eq_0 hc, hq.1, hq', gAdd, hz, row_eq]
      | false =>
        have hq2 : (decide (1 < m + 1) && c == 48) = false := by rw [Bool.and_comm]; exact hq
        rw [hq2, if_neg Bool.false_ne_true] at ht
        have ht' : (found ++ [row "number" (mk w) line col]) ++ T line (col + (m + 1)) (l.drop (k + 1 + m)) = T 0 0 l := by
          rw [← ht]
          simp [hwl, List.drop_drop]
        refine .inl ⟨l.length - (k + 1 + m), lwE l (found ++ [row "number" (mk w) line col]) line (col + (m + 1)) (k + 1 + m) (.val (.str (mk [c]))) (.val (.int ((k + 1 + m : Nat) : Int))) (.val (.str "number")), .inl ?_, by omega, _, line, col + (m + 1), k + 1 + m, _, _, _, rfl, rfl, rfl, rfl, by simp; omega, by omega, ht', rfl⟩
        cases hc0 : (c == 48) with
        | false =>
          simp [lwE, gi, f8, f9, f10, eq_nl hc, b1, eq_rem hc, b3, in_letters, in_digits, h1, h4, as, gs', hl', eq_0 hc, hc0, gNotN, isN, hz', row_eq]
          omega
        | true =>
          have hq' : ¬ (1 : Int) < (k : Int) + 1 + (m : Int) - (k : Int) := by
            rw [hc0, Bool.true_and, decide_eq_false_iff_not] at hq
            omega
          simp [lwE, gi, f8, f9, f10, eq_nl hc, b1, eq_rem hc, b3, in_letters, in_digits, h1, h4, as, gs', hl', eq_0 hc, hc0, hq', gNotN, isN, hz', row_eq]
          omega
    have g2 : gSl (.str (mk l)) (some (k : Int)) (some ((k : Int) + 2)) = some (.val (.str (mk ((c :: l.drop (k + 1)).take 2)))) := by
      have := gSl_mk (l := l) (a := k) (b := k + 2) h' (Nat.le_add_right _ _)
      rw [Nat.add_sub_cancel_left, hd] at this
      exact this
    have g1 : gSl (.str (mk l)) (some (k : Int)) (some ((k : Int) + 1)) = some (.val (.str (mk [c]))) := by
      have := gSl_mk (l := l) (a := k) (b := k + 1) h' (Nat.le_add_right _ _)
      rw [Nat.add_sub_cancel_left, hd] at this
      exact this
    simp only [tok1, if_neg h1, if_neg h4] at ht
    cases h5 : isTwo (mk ((c :: l.drop (k + 1)).take 2)) with
    | true =>
      have hlen := (isTwo_len h5).1
      rw [h5, if_pos rfl] at ht
      have hk2 : k + 2 ≤ l.length := by
        have q : ((c :: l.drop (k + 1)).take 2).length ≤ (c :: l.drop (k + 1)).length := List.length_take_le' _ _
        rw [hlen, List.length_cons, hr] at q
        omega
      have ht' : (found ++ [row "sign" (mk ((c :: l.drop (k + 1)).take 2)) line col]) ++ T line (col + 2) (l.drop (k + 2)) = T 0 0 l := by
        rw [← ht, mk_len, hlen]
        simp [List.drop_drop]
      have ga := gIn_two (mk ((c :: l.drop (k + 1)).take 2))
      unfold twoDs at ga
      rw [h5] at ga
      generalize (c :: l.drop (k + 1)).take 2 = w at *
      refine .inl ⟨l.length - (k + 2), lwE l (found ++ [row "sign" (mk w) line col]) line (col + 2) (k + 2) (.val (.str (mk [c]))) (.val (.int ((k + 2 : Nat) : Int))) (.val (.str "sign")), .inl ?_, by omega, _, line, col + 2, k + 2, _, _, _, rfl, rfl, rfl, rfl, by simp; omega, by omega, ht', rfl⟩
      simp [lwE, gi, f8, f9, f10, eq_nl hc, b1, eq_rem hc, b3, in_letters, in_digits, h1, h4, ne_sp hc, b2, g2, ga, gNotN, isN, hz', row_eq]
      omega
    | false =>
      rw [h5, if_neg Bool.false_ne_true] at ht
      have ga := gIn_two (mk ((c :: l.drop (k + 1)).take 2))
      unfold twoDs at ga
      rw [h5] at ga
      generalize (c :: l.drop (k + 1)).take 2 = w at *
      by_cases h6 : c ∈ onesL
      · rw [if_pos h6] at ht
        have ht' : (found ++ [row "sign" (mk [c]) line col]) ++ T line (col + 1) (l.drop (k + 1)) = T 0 0 l := by
          rw [← ht]
          simp
        refine .inl ⟨l.length - (k + 1), lwE l (found ++ [row "sign" (mk [c]) line col]) line (col + 1) (k + 1) (.val (.str (mk [c]))) (.val (.int ((k + 1 : Nat) : Int))) (.val (.str "sign")), .inl ?_, by omega, _, line, col + 1, k + 1, _, _, _, rfl, rfl, rfl, rfl, by simp; omega, by omega, ht', rfl⟩
        simp [lwE, gi, f8, f9, f10, eq_nl hc, b1, eq_rem hc, b3, in_letters, in_digits, h1, h4, ne_sp hc, b2, g2, g1, ga, notin_ones, h6, gNotN, isN, hz', row_eq]
        omega
      · rw [if_neg h6] at ht
        refine .inr (.inr ⟨.fr (.lst (T 0 0 l)), lwE l found line col k (.val (.str (mk [c]))) (.val (.int ((k + 1 : Nat) : Int))) (.val (.str "sign")), ?_, by simp [lwE]⟩)
        rw [← ht]
        simp [lwE, gi, f8, f9, f10, eq_nl hc, b1, eq_rem hc, b3, in_letters, in_digits, h1, h4, ne_sp hc, b2, g2, ga, notin_ones, h6, gAdd, hz, row_eq]
  · left
    have hk' : k = l.length := by omega
    subst hk'
    refine ⟨lwE l found line col l.length s8 s9 s10, by simp [lwE, gLen_mk h'], ?_⟩
    rw [List.drop_length, T_nil] at ht
    have hz : found.length + 1 ≤ 16777216 := by omega
    simp [lwE, gAdd, hz]
    rw [← ht]
    rfl
end K44

/-! K44z -/
namespace K44
open PySem PySem.Spec PyProof.Rows L2 Kn

/-- how a turn of a loop may end -/
def Nxt (I : Kn.Env → Prop) (P : OS → Prop) (o : OS) : Prop := (∃ S2, (o = .nx S2 ∨ o = .ct S2) ∧ I S2) ∨ (∃ S2, o = .bk S2 ∧ P (.nx S2)) ∨ ∃ r S2, o = .rt r S2 ∧ P (.rt r S2)
theorem nxt_of {I : Kn.Env → Prop} {P : OS → Prop} {o o' : OS} (e : o = o') (h : Nxt I P o') : Nxt I P o := by rw [e]; exact h
theorem forR_ind {C : Cc} {t : Tg} {body : Sg} {P : OS → Prop} (I : Nat → Kn.Env → Prop) {n : Nat} {S : Kn.Env} (h0 : I 0 S)
    (step : ∀ i S, i < n → I i S → ∃ S1, t (.int (i : Int)) S = some S1 ∧ Nxt (I (i + 1)) P (body C S1))
    (done : ∀ S, I n S → P (.nx S)) : P (forL C t body (rangeD 0 n) S) := by
  refine forL_ind (P := P) (fun ds S => ∃ i, i ≤ n ∧ ds = (List.range' i (n - i)).map (fun (k : Nat) => D.int (0 + (k : Int))) ∧ I i S) ⟨0, Nat.zero_le _, ?_, h0⟩ ?_ ?_
  · unfold rangeD
    rw [List.range_eq_range', Nat.sub_zero]
  · rintro d ds S ⟨i, hi, e, hI⟩
    have hlt : i < n := by
      rcases Nat.lt_or_ge i n with q | q
      · exact q
      · rw [show n - i = 0 by omega] at e; cases e
    rw [show n - i = (n - (i + 1)) + 1 by omega, List.range'_succ, List.map_cons] at e
    cases e
    obtain ⟨S1, e1, h⟩ := step i S hlt hI
    refine ⟨S1, by rw [Int.zero_add]; exact e1, ?_⟩
    rcases h with ⟨S2, h1, h2⟩ | h | h
    · exact .inl ⟨S2, h1, i + 1, hlt, rfl, h2⟩
    · exact .inr (.inl h)
    · exact .inr (.inr h)
  · rintro S ⟨i, hi, e, hI⟩
    have : i = n := by
      rcases Nat.lt_or_ge i n with q | q
      · rw [show n - i = (n - (i + 1)) + 1 by omega, List.range'_succ, List.map_cons] at e; cases e
      · omega
    subst this
    exact done S hI
theorem glue_cons (c : Nat) (l : List Nat) (ls : List (List Nat)) : glue c (l :: ls) = l ++ (match ls with
    | [] => []
    | _ :: _ => c :: glue c ls) := by
  cases ls with
  | nil => simp [glue]
  | cons m ls => rfl
theorem glue_len (c : Nat) : ∀ ls : List (List Nat), ls.length ≤ (glue c ls).length + 1 ∧ ∀ l ∈ ls, ∀ x ∈ l, x ∈ glue c ls
  | [] => ⟨by simp, by simp⟩
  | [l] => ⟨by simp, by simp [glue]⟩
  | l :: m :: ls => by
    obtain ⟨h1, h2⟩ := glue_len c (m :: ls)
    refine ⟨?_, fun l' hl x hx => ?_⟩
    · show (l :: m :: ls).length ≤ (l ++ c :: glue c (m :: ls)).length + 1
      simp at h1 ⊢
      omega
    · show x ∈ l ++ c :: glue c (m :: ls)
      rcases List.mem_cons.mp hl with q | q
      · subst q; exact List.mem_append_left _ hx
      · exact List.mem_append_right _ (List.mem_cons_of_mem _ (h2 l' q x hx))
theorem glue_le (c : Nat) : ∀ ls : List (List Nat), ∀ l ∈ ls, l.length ≤ (glue c ls).length
  | [], l, h => absurd h (by simp)
  | [l], l', h => by simp at h; subst h; exact Nat.le_refl _
  | l :: m :: ls, l', h => by
    show l'.length ≤ (l ++ c :: glue c (m :: ls)).length
    rcases List.mem_cons.mp h with q | q
    · subst q; simp
    · have := glue_le c (m :: ls) l' q
      simp
      omega
/-! ### the program's reader -/
theorem gSplit_nl {l : List Nat} (h : l.length ≤ 1000000) : ∃ ls : List (List Nat), gSplit (mk l) (.str "\n") = some (.fr (.lst (ls.map fun x => .str (mk x)))) ∧ glue 10 ls = l ∧ ls ≠ [] ∧ ∀ x ∈ ls, 10 ∉ x := by
  obtain ⟨ls, h1, h2, h3, h4⟩ := split_mk l 10
  refine ⟨ls, ?_, h2, h3, h4⟩
  have e : (Str.ofString "\n") = mk [10] := by decide +kernel
  rw [e]
  show (if ((mk [10]).length == 0) = false ∧ (mk l).length + 2 ≤ 16777216 then some (R.fr (.lst ((Txt.split (mk l) (mk [10])).map .str))) else none) = _
  rw [if_pos ⟨by decide, by rw [mk_len]; omega⟩, h1, List.map_map]
  rfl
def wiE (l : List Nat) (ls : List (List Nat)) (found : List D) (s3 s4 s5 s6 s7 : Slot) : Kn.Env := [.val (.str (mk l)), .own (.lst found), .own (.lst (ls.map fun x => .str (mk x))), s3, s4, s5, s6, s7]
abbrev wCond : Sb := sAndT (sB (sOp2 gLt (sVar 5) (sBi gLen (sRCons (sVar 4) sRNil)))) (sB (sOp2 gNe (sOp2 gIdx (sVar 4) (sVar 5)) (sC (.str "#"))))
abbrev wBody : Sg := (sSeq (sIf (sB (sOp2 gEq (sOp2 gIdx (sVar 4) (sVar 5)) (sC (.str " ")))) (sSeq (sAug 5 gIAdd (sC (.int 1)))
  sCont) sSkip)
  (sSeq (sAsg (tgT 2 (tgsC (tgN 6) (tgsC (tgN 7) tgsN))) (sCall 3 (sKCons 0 (sVar 4) (sKCons 0 (sVar 5) sKNil))))
  (sSeq (sDrop (sApp 1 (sTup (sCons (sVar 6) (sCons (sVar 7) (sCons (sVar 3) (sCons (sVar 5) sNil)))))))
  (sSeq (sIf (sB (sOp2 gEq (sVar 6) (sC (.str "bad")))) (sRet (sVar 1)) sSkip)
  (sAug 5 gIAdd (sBi gLen (sRCons (sVar 7) sRNil)))))))
theorem tok1_sort {c : Nat} {r : List Nat} : gEq (.str (tok1 (c :: r)).2.1) (.str "bad") = some (.val (.bl (tok1 (c :: r)).1)) := by
  have key : ∀ s : Str, ∀ b : Bool, gEq (.str s) (.str "bad") = some (.val (.bl b)) → gEq (.str s) (.str "bad") = some (.val (.bl b)) := fun _ _ q => q
  have e1 : gEq (.str "bad") (.str "bad") = some (.val (.bl true)) := by kernel_rfl
  have e2 : gEq (.str "own") (.str "bad") = some (.val (.bl false)) := by kernel_rfl
  have e3 : gEq (.str "name") (.str "bad") = some (.val (.bl false)) := by kernel_rfl
  have e4 : gEq (.str "number") (.str "bad") = some (.val (.bl false)) := by kernel_rfl
  have e5 : gEq (.str "sign") (.str "bad") = some (.val (.bl false)) := by kernel_rfl
  unfold tok1
  dsimp only
  split
  · split
    · exact e1
    · dsimp only
      split
      · exact e2
      · exact e3
  · split
    · split
      · exact e1
      · exact e4
    · split
      · exact e5
      · split
        · exact e5
        · exact e1
theorem tok1_len {c : Nat} {r : List Nat} (h : (tok1 (c :: r)).1 = false) : (tok1 (c :: r)).2.2.length ≤ (c :: r).length := by
  have hs : (spanS (c :: r)).length ≤ (c :: r).length := List.IsPrefix.length_le (List.takeWhile_prefix _)
  have hd : (spanD (c :: r)).length ≤ (c :: r).length := List.IsPrefix.length_le (List.takeWhile_prefix _)
  unfold tok1 at h ⊢
  dsimp only at h ⊢
  split at h
  · split at h
    · cases h
    · rename_i h1 h2
      rw [if_pos h1, if_neg h2]
      show (mk _).length ≤ _
      rw [mk_len]; exact hs
  · split at h
    · split at h
      · cases h
      · rename_i h1 h2 h3
        rw [if_neg h1, if_pos h2, if_neg h3]
        show (mk _).length ≤ _
        rw [mk_len]; exact hd
    · split at h
      · rename_i h1 h2 h3
        rw [if_neg h1, if_neg h2, if_pos h3]
        show (mk _).length ≤ _
        rw [mk_len]
        exact List.length_take_le' _ _
      · split at h
        · rename_i h1 h2 h3 h4
          rw [if_neg h1, if_neg h2, if_neg h3, if_pos h4]
          show (mk _).length ≤ _
          rw [mk_len]
          simp
        · cases h
theorem gLen_str {z : Str} (h : z.length ≤ 16777216) : gLen [.str z] = some (.val (.int z.length)) := by
  show (if z.length ≤ 16777216 then some (z.length : Int) else none).map _ = _
  rw [if_pos h]
  rfl
/-- a line -/
theorem line_ok {fu : Nat} (hfu : 100000000 ≤ fu) {P : OS → Prop} (n : Nat) (l : List Nat) (ls : List (List Nat)) (line tl : List Nat) (i : Nat) (Tot : List D) (hl : line.length ≤ 1000000) (ha : ∀ c ∈ line, c < 1114112) (h10 : 10 ∉ line) (htl : tl = [] ∨ ∃ g, tl = 10 :: g)
    (found : List D) (hf : found.length + line.length ≤ 10000000) (s6 s7 : Slot) (f6 : free s6 = true) (f7 : free s7 = true) (h0 : found ++ T i 0 (line ++ tl) = Tot)
    (good : ∀ found' s5 s6 s7, free s5 = true → free s6 = true → free s7 = true → found'.length ≤ found.length + line.length → found' ++ T i line.length tl = Tot → P (.nx (wiE l ls found' (.val (.int (i : Int))) (.val (.str (mk line))) s5 s6 s7)))
    (bad : ∀ S2, P (.rt (.fr (.lst Tot)) (.val (.str (mk l)) :: S2))) :
    P (whL (CC fu (n + 3)) wCond wBody fu (wiE l ls found (.val (.int (i : Int))) (.val (.str (mk line))) (.val (.int 0)) s6 s7)) := by
  have hl' : line.length ≤ 16777216 := by omega
  refine whL_ind (P := P) (fun m S => ∃ (fnd : List D) (k : Nat) (s6 s7 : Slot), free s6 = true ∧ free s7 = true ∧ S = wiE l ls fnd (.val (.int (i : Int))) (.val (.str (mk line))) (.val (.int (k : Int))) s6 s7 ∧ k ≤ line.length ∧ fnd.length ≤ found.length + k ∧ fnd ++ T i k (line.drop k ++ tl) = Tot ∧ m = line.length - k) (n := line.length) (by omega) ⟨found, 0, s6, s7, f6, f7, rfl, Nat.zero_le _, Nat.le_refl _, h0, by omega⟩ ?_
  rintro m S ⟨fnd, k, s6, s7, f6, f7, rfl, hk, hfl, ht, rfl⟩
  by_cases hlt : k < line.length
  · have e : line[k]? = some line[k] := List.getElem?_eq_getElem hlt
    have hc := ha line[k] (List.getElem_mem hlt)
    have hd : line.drop k = line[k] :: line.drop (k + 1) := List.drop_eq_getElem_cons hlt
    have gi := gIdx_at hl' e
    have c1 : line[k] ≠ 10 := fun q => h10 (by rw [← q]; exact List.getElem_mem hlt)
    have hw := word_from_ok hfu n k line hl' ha hlt
    have hr : (line.drop (k + 1)).length = line.length - (k + 1) := List.length_drop
    have h10' : 10 ∉ line.drop (k + 1) := fun q => h10 (List.mem_of_mem_drop q)
    rw [hd] at ht hw
    generalize line[k] = c at *
    by_cases c3 : c = 35
    · subst c3
      left
      refine ⟨wiE l ls fnd (.val (.int (i : Int))) (.val (.str (mk line))) (.val (.int (k : Int))) s6 s7, by simp [wiE, gLen_mk hl', hlt, gi, ne_rem hc], ?_⟩
      refine good fnd _ _ _ rfl f6 f7 (by omega) ?_
      rw [List.cons_append, T_rem] at ht
      have hrm : remk (35 :: (line.drop (k + 1) ++ tl)) = 35 :: line.drop (k + 1) := by
        have q := Kn.takeWhile_mid (fun c => decide (c ≠ 10)) (35 :: line.drop (k + 1)) tl (fun x hx => by
          rcases List.mem_cons.mp hx with q | q
          · subst q; decide
          · exact decide_eq_true fun z => h10' (by rw [← z]; exact q)) (fun c r' q => by
          rcases htl with z | ⟨g, z⟩
          · rw [z] at q; cases q
          · rw [z] at q; cases q; decide)
        exact q
      rw [hrm] at ht
      have e2 : k + (35 :: line.drop (k + 1)).length = line.length := by rw [List.length_cons, hr]; omega
      rw [e2] at ht
      have e3 : (35 :: (line.drop (k + 1) ++ tl)).drop (35 :: line.drop (k + 1)).length = tl := by
        rw [List.length_cons, List.drop_succ_cons, List.drop_left']
        rfl
      rw [e3] at ht
      exact ht
    have b3 : (c == 35) = false := by simpa using c3
    right
    refine ⟨wiE l ls fnd (.val (.int (i : Int))) (.val (.str (mk line))) (.val (.int (k : Int))) s6 s7, by simp [wiE, gLen_mk hl', hlt, gi, ne_rem hc, b3], ?_⟩
    by_cases c2 : c = 32
    · subst c2
      rw [List.cons_append, T_sp] at ht
      refine .inl ⟨line.length - (k + 1), wiE l ls fnd (.val (.int (i : Int))) (.val (.str (mk line))) (.val (.int ((k + 1 : Nat) : Int))) s6 s7, .inr ?_, by omega, fnd, k + 1, s6, s7, f6, f7, rfl, by omega, by omega, ht, rfl⟩
      simp [wiE, gi, eq_sp hc]
    have b2 : (c == 32) = false := by simpa using c2
    have htk : tok1 (c :: (line.drop (k + 1) ++ tl)) = tok1 (c :: line.drop (k + 1)) := by
      rcases htl with z | ⟨g, z⟩
      · rw [z, List.append_nil]
      · rw [z]
        exact tok1_tail c (line.drop (k + 1)) g
    rw [List.cons_append, T_word _ _ _ c1 c2 c3, htk] at ht
    have hz' : fnd.length < 16777216 := by omega
    have hsort := tok1_sort (c := c) (r := line.drop (k + 1))
    cases hb : (tok1 (c :: line.drop (k + 1))).1 with
    | true =>
      rw [hb, if_pos rfl] at ht
      rw [hb] at hsort
      generalize tok1 (c :: line.drop (k + 1)) = t at *
      refine .inr (.inr ⟨.fr (.lst Tot), .val (.str (mk l)) :: [.non, .own (.lst (ls.map fun x => .str (mk x))), .val (.int (i : Int)), .val (.str (mk line)), .val (.int (k : Int)), .val (.str t.2.1), .val (.str t.2.2)], ?_, bad _⟩)
      rw [← ht]
      simp [wiE, gi, f6, f7, eq_sp hc, b2, hw, hz', hsort, row_eq]
    | false =>
      have hlen := tok1_len hb
      have hpos := tok1_pos hb
      rw [hb, if_neg Bool.false_ne_true] at ht
      rw [hb] at hsort
      rw [List.length_cons, hr] at hlen
      generalize tok1 (c :: line.drop (k + 1)) = t at *
      have gl := gLen_str (z := t.2.2) (by omega)
      have ht' : (fnd ++ [row t.2.1 t.2.2 i k]) ++ T i (k + t.2.2.length) (line.drop (k + t.2.2.length) ++ tl) = Tot := by
        rw [← ht, List.append_assoc, List.singleton_append]
        congr 3
        have q : (c :: (line.drop (k + 1) ++ tl)) = line.drop k ++ tl := by rw [hd]; rfl
        rw [q, List.drop_append_of_le_length (by rw [List.length_drop]; omega), List.drop_drop]
      refine .inl ⟨line.length - (k + t.2.2.length), wiE l ls (fnd ++ [row t.2.1 t.2.2 i k]) (.val (.int (i : Int))) (.val (.str (mk line))) (.val (.int ((k + t.2.2.length : Nat) : Int))) (.val (.str t.2.1)) (.val (.str t.2.2)), .inl ?_, by omega, _, k + t.2.2.length, _, _, rfl, rfl, rfl, by omega, by simp; omega, ht', rfl⟩
      simp [wiE, gi, f6, f7, eq_sp hc, b2, hw, hz', hsort, row_eq, gl]
  · left
    have hk' : k = line.length := by omega
    subst hk'
    refine ⟨wiE l ls fnd (.val (.int (i : Int))) (.val (.str (mk line))) (.val (.int (line.length : Int))) s6 s7, by simp [wiE, gLen_mk hl'], ?_⟩
    refine good fnd _ _ _ rfl f6 f7 hfl ?_
    rw [List.drop_length, List.nil_append] at ht
    exact ht

theorem glue_sum (c : Nat) : ∀ ls : List (List Nat), (ls.map List.length).sum ≤ (glue c ls).length
  | [] => by simp
  | [l] => by simp [glue]
  | l :: m :: ls => by
    have := glue_sum c (m :: ls)
    show _ ≤ (l ++ c :: glue c (m :: ls)).length
    simp at this ⊢
    omega
theorem sum_take (ls : List (List Nat)) : ∀ (i : Nat), ((ls.take i).map List.length).sum ≤ (ls.map List.length).sum := fun i => by
  conv => rhs; rw [← List.take_append_drop i ls, List.map_append, List.sum_append]
  exact Nat.le_add_right _ _
theorem sum_next {ls : List (List Nat)} {i : Nat} {x : List Nat} (h : ls[i]? = some x) : ((ls.take (i + 1)).map List.length).sum = ((ls.take i).map List.length).sum + x.length := by
  rw [List.take_add_one, h, List.map_append, List.sum_append]
  simp
theorem words_in_ok {fu : Nat} (hfu : 100000000 ≤ fu) (n : Nat) (l : List Nat) (h : l.length ≤ 1000000) (ha : ∀ c ∈ l, c < 1114112) : run fu (n + 4) 4 [.val (.str (mk l))] = .ok (.fr (.lst (T 0 0 l))) [.non] := by
  obtain ⟨ls, e1, e2, e3, e4⟩ := gSplit_nl h
  have hlen := glue_len 10 ls
  rw [e2] at hlen
  have hle : ∀ x ∈ ls, x.length ≤ l.length := fun x hx => by have := glue_le 10 ls x hx; rw [e2] at this; exact this
  have hsum := glue_sum 10 ls
  rw [e2] at hsum
  have hrg : rgOk (ls.length : Int) := rgOk_nat (by omega)
  rw [run_s (F := ⟨1, 8, F_words_in⟩) rfl, bodyRun_eq]
  simp [F_words_in, e1, hrg]
  refine forR_ind (P := fun o => finO 1 (o.bind _) = _) (fun i S => ∃ (found : List D) (s3 s4 s5 s6 s7 : Slot), free s3 = true ∧ free s4 = true ∧ free s5 = true ∧ free s6 = true ∧ free s7 = true ∧ S = wiE l ls found s3 s4 s5 s6 s7 ∧ found.length ≤ ((ls.take i).map List.length).sum ∧
    (i < ls.length → found ++ T i 0 (glue 10 (ls.drop i)) = T 0 0 l) ∧ (∀ m x, i = m + 1 → ls.length = m + 1 → ls[m]? = some x → found ++ [row "end" "" m x.length] = T 0 0 l))
    ⟨[], .non, .non, .non, .non, .non, rfl, rfl, rfl, rfl, rfl, rfl, Nat.zero_le _, fun _ => by rw [List.drop_zero, e2, List.nil_append], fun m x q => by omega⟩ ?_ ?_
  · rintro i S hi ⟨found, s3, s4, s5, s6, s7, f3, f4, f5, f6, f7, rfl, hf, ht, _⟩
    have ht := ht hi
    have ex : ls[i]? = some ls[i] := List.getElem?_eq_getElem hi
    have hx : ls[i] ∈ ls := List.getElem_mem hi
    have hd : ls.drop i = ls[i] :: ls.drop (i + 1) := List.drop_eq_getElem_cons hi
    have hxl := hle _ hx
    have hxa : ∀ c ∈ ls[i], c < 1114112 := fun c hc => ha c (hlen.2 _ hx c hc)
    have hx10 := e4 _ hx
    have hs1 := sum_next ex
    have hs2 := sum_take ls (i + 1)
    generalize ls[i] = x at *
    have gi : atI (ls.map fun x => D.str (mk x)) (i : Int) = some (.str (mk x)) := by
      unfold atI ixN
      rw [if_pos (by omega), if_pos (by rw [List.length_map]; omega)]
      simp [ex]
    refine ⟨wiE l ls found (.val (.int (i : Int))) s4 s5 s6 s7, by simp [wiE, f3], ?_⟩
    refine nxt_of (o' := whL (CC fu (n + 3)) wCond wBody fu (wiE l ls found (.val (.int (i : Int))) (.val (.str (mk x))) (.val (.int 0)) s6 s7)) ?_ ?_
    · simp [wiE, f4, f5, gi]
    · rw [hd, glue_cons] at ht
      refine line_ok hfu (P := Nxt _ _) n l ls x _ i (T 0 0 l) (by omega) hxa hx10 ?_ found (by omega) s6 s7 f6 f7 ht ?_ ?_
      · cases ls.drop (i + 1) with
        | nil => exact .inl rfl
        | cons y ys => exact .inr ⟨_, rfl⟩
      · intro found' s5 s6 s7 f5 f6 f7 hf' ht'
        refine .inl ⟨_, .inl rfl, found', _, _, s5, s6, s7, rfl, rfl, f5, f6, f7, rfl, by rw [hs1]; omega, fun hi' => ?_, fun m y q1 q2 q3 => ?_⟩
        · cases hdd : ls.drop (i + 1) with
          | nil =>
            have := congrArg List.length hdd
            rw [List.length_drop] at this
            simp at this
            omega
          | cons y ys =>
            rw [hdd] at ht'
            rw [T_nl] at ht'
            exact ht'
        · have hm : m = i := by omega
          subst hm
          rw [ex] at q3
          cases q3
          have hdd : ls.drop (m + 1) = [] := List.drop_eq_nil_of_le (by omega)
          rw [hdd, T_nil] at ht'
          exact ht'
      · intro S2
        exact .inr (.inr ⟨_, _, rfl, by simp⟩)
  · rintro S ⟨found, s3, s4, s5, s6, s7, f3, f4, f5, f6, f7, rfl, hf, _, ht⟩
    obtain ⟨m, hm⟩ : ∃ m, ls.length = m + 1 := ⟨ls.length - 1, by have := List.length_pos_iff.mpr e3; omega⟩
    have ex : ls[m]? = some (ls[m]'(by omega)) := List.getElem?_eq_getElem _
    have hxl := hle _ (List.getElem_mem (by omega : m < ls.length))
    have ht := ht m _ hm hm ex
    generalize ls[m]'(by omega) = x at *
    have hs2 := sum_take ls ls.length
    have gi : atI (ls.map fun x => D.str (mk x)) (-1) = some (.str (mk x)) := by
      unfold atI ixN
      rw [if_neg (by decide), if_pos (by rw [List.length_map]; omega)]
      have : ((-1 : Int) + ((ls.map fun x => D.str (mk x)).length : Int)).toNat = m := by rw [List.length_map]; omega
      simp only [Option.bind_some, this]
      simp [ex]
    have hz' : found.length < 16777216 := by omega
    have em : (ls.length : Int) - 1 = (m : Int) := by omega
    rw [← ht]
    simp [wiE, gi, gLen_mk (by omega : x.length ≤ 16777216), hz', em, row_eq]
theorem words_of_ok {fu : Nat} (hfu : 100000000 ≤ fu) (n : Nat) (l : List Nat) (h : l.length ≤ 1000000) (ha : ∀ c ∈ l, c < 1114112) : run fu (n + 5) 5 [.val (.str (mk l))] = .ok (.val (.tup (T 0 0 l))) [.non] := by
  have hw := words_in_ok hfu n l h ha
  rw [run_s (F := ⟨1, 1, F_words_of⟩) rfl, bodyRun_eq]
  have hi : gIsi ["str"] (.str (mk l)) = some (.val (.bl true)) := by kernel_rfl
  simp [F_words_of, hi, hw]
end K44

/-! K44t -/
namespace K44
open PySem PySem.Spec PyProof.Rows L2 Kn

/-! ### drawing -/
theorem run_m {fu m i : Nat} {args : List Slot} {F : Fd} (h : prog.pr i = some F) (hm : 1 ≤ m) : run fu m i args = bodyRun F (CC fu (m - 1)) args := by
  obtain ⟨k, rfl⟩ : ∃ k, m = k + 1 := ⟨m - 1, by omega⟩
  exact run_s h
section
variable {fu : Nat}
theorem dr {m : Nat} (hm : 1 ≤ m) : DrawOk (run fu m 7) := by
  intro n p k h1 h2 h3 h4
  rw [run_m (F := ⟨2, 5, F__law_draw⟩) rfl hm]
  exact draw_ok n p k h1 h2 h3 h4
theorem pk8 {m : Nat} (hm : 2 ≤ m) : PickOk (run fu m 8) := by
  intro n p ds h1 h2 h3 h4
  rw [run_m (F := ⟨2, 2, F__law_pick⟩) rfl (by omega)]
  exact pick_ok (C := CC fu (m - 1)) (i := 7) (dr (by omega)) n p ds h1 h2 h3 h4
theorem sh9 {m : Nat} (hm : 2 ≤ m) : ShufOk (run fu m 9) := by
  intro n p ds h1 h2 h3
  rw [run_m (F := ⟨2, 5, F__law_shuffled⟩) rfl (by omega)]
  exact shuf_ok (C := CC fu (m - 1)) (i := 7) (dr (by omega)) n p ds h1 h2 h3
theorem gc11 (hfu : 100000000 ≤ fu) {m : Nat} (hm : 1 ≤ m) : GcdOk (run fu m 11) := by
  intro a b h
  rw [run_m (F := ⟨2, 2, F__law_gcd⟩) rfl (by omega)]
  exact gcd_ok (C := CC fu (m - 1)) hfu a b h
theorem lo12 (hfu : 100000000 ≤ fu) {m : Nat} (hm : 2 ≤ m) : LowOk (run fu m 12) := by
  intro a b h1 h2
  rw [run_m (F := ⟨2, 3, F__law_low⟩) rfl (by omega)]
  exact low_ok (C := CC fu (m - 1)) (i := 11) (gc11 hfu (by omega)) a b h1 h2
theorem ad13 (hfu : 100000000 ≤ fu) {m : Nat} (hm : 3 ≤ m) : AddOk (run fu m 13) := by
  intro N M a b h1 h2 h3 h4
  rw [run_m (F := ⟨2, 2, F__law_add⟩) rfl (by omega)]
  exact add_ok (C := CC fu (m - 1)) (i := 12) (lo12 hfu (by omega)) N M a b h1 h2 h3 h4
theorem sr14 {m n : Nat} {p : D} (hm : 3 ≤ m) (hp : IsPen n p) (hn : n < 1000000000) : ∃ d p', run fu m 14 [.bor p] = .ok (.val d) [.bor p'] ∧ IsRat 24 d ∧ IsPen (n + 1) p' := by
  obtain ⟨d, p', e, hd, hp'⟩ := pk8 (fu := fu) (m := m - 1) (by omega) n p [.tup [.int 0, .int 1], .tup [.int 1, .int 1], .tup [.int 2, .int 1], .tup [.int 1, .int 2], .tup [.int 3, .int 1], .tup [.int 1, .int 3], .tup [.int 3, .int 2]] hp hn (by simp) (by simp)
  refine ⟨d, p', ?_, ?_, hp'⟩
  · rw [run_m (F := ⟨1, 1, F__law_small_ratio⟩) rfl (by omega), bodyRun_eq]
    simp [F__law_small_ratio, e]
  · simp at hd
    rcases hd with h | h | h | h | h | h | h <;> subst h <;> exact ⟨_, _, rfl, by decide, by decide, by decide⟩
/-! ### drawn sums -/
def GoodName (w : List Nat) : Prop := ∃ c r, w = c :: r ∧ c ∈ lettersL ∧ (∀ x ∈ w, x ∈ signsL) ∧ w.length ≤ 12
def IsNm (d : D) : Prop := ∃ w, d = .str (mk w) ∧ GoodName w
def IsEx : Nat → D → Prop
  | 0, d => (∃ x, IsNm x ∧ d = .tup [.str "var", x]) ∨ (∃ r, IsRat 24 r ∧ d = .tup [.str "num", r])
  | n + 1, d => IsEx n d ∨ (∃ s a b, (s = Str.ofString "add" ∨ s = Str.ofString "sub") ∧ IsEx n a ∧ IsEx n b ∧ d = .tup [.str s, a, b]) ∨ (∃ a, IsEx n a ∧ d = .tup [.str "neg", a]) ∨ (∃ r a, IsRat 24 r ∧ IsEx n a ∧ d = .tup [.str "times", r, a])
    ∨ (∃ s a, (s = Str.ofString "knee" ∨ s = Str.ofString "abs") ∧ IsEx n a ∧ d = .tup [.str s, a]) ∨ (∃ s es, (s = Str.ofString "max" ∨ s = Str.ofString "min") ∧ es ≠ [] ∧ es.length ≤ 3 ∧ (∀ e ∈ es, IsEx n e) ∧ d = .tup [.str s, .tup es])
    ∨ (∃ a lo hi, IsEx n a ∧ IsRat 24 lo ∧ IsRat 24 hi ∧ d = .tup [.str "clip", a, lo, hi])
theorem IsEx.up {n : Nat} {d : D} (h : IsEx n d) : IsEx (n + 1) d := .inl h
theorem IsEx.le {n m : Nat} {d : D} (h : IsEx n d) (hl : n ≤ m) : IsEx m d := by
  induction hl with
  | refl => exact h
  | step _ ih => exact ih.up
def Nms (ns : List D) : Prop := ns ≠ [] ∧ ns.length < 1000 ∧ ∀ d ∈ ns, IsNm d
theorem leaf15 {m n : Nat} {p : D} {ns : List D} (hm : 4 ≤ m) (hp : IsPen n p) (hn : n < 900000000) (hs : Nms ns) : ∃ d p', run fu m 15 [.bor p, .val (.lst ns)] = .ok (.val d) [.bor p', .non] ∧ IsEx 0 d ∧ IsPen (n + 2) p' := by
  obtain ⟨z, p1, e1, z0, z1, hp1⟩ := dr (fu := fu) (m := m - 1) (by omega) n p 4 hp (by omega) (by decide) (by decide)
  rw [run_m (F := ⟨2, 2, F__law_leaf⟩) rfl (by omega), bodyRun_eq]
  by_cases hz : 0 < z
  · obtain ⟨d, p2, e2, hd, hp2⟩ := pk8 (fu := fu) (m := m - 1) (by omega) (n + 1) p1 ns hp1 (by omega) hs.1 (by have := hs.2.1; omega)
    refine ⟨.tup [.str "var", d], p2, ?_, .inl ⟨d, hs.2.2 d hd, rfl⟩, hp2⟩
    simp [F__law_leaf, e1, hz, e2]
  · obtain ⟨d, p2, e2, hd, hp2⟩ := sr14 (fu := fu) (m := m - 1) (by omega) hp1 (by omega)
    refine ⟨.tup [.str "num", d], p2, ?_, .inr ⟨d, hd, rfl⟩, hp2⟩
    simp [F__law_leaf, e1, hz, e2]
/-- how many draws a straight sum takes at most -/
def cost : Nat → Nat
  | 0 => 4
  | d + 1 => 4 + 3 * cost d
theorem straight16 {ns : List D} (hs : Nms ns) : ∀ (dep m n : Nat) (p : D), dep + 5 ≤ m → IsPen n p → n + cost dep < 900000000 → ∃ d p', run fu m 16 [.bor p, .val (.lst ns), .val (.int (dep : Int))] = .ok (.val d) [.bor p', .non, .non] ∧ IsEx dep d ∧ IsPen (n + cost dep) p'
  | 0, m, n, p, hm, hp, hn => by
    obtain ⟨d, p1, e1, hd, hp1⟩ := leaf15 (fu := fu) (m := m - 1) (by omega) hp (by omega) hs
    refine ⟨d, p1, ?_, hd, hp1.le (by simp [cost])⟩
    rw [run_m (F := ⟨3, 4, F__law_straight⟩) rfl (by omega), bodyRun_eq]
    simp [F__law_straight, e1]
  | dep + 1, m, n, p, hm, hp, hn => by
    unfold cost at hn ⊢
    have hc : ∀ k, 4 ≤ cost k := fun k => by cases k <;> simp [cost]
    have hcd := hc dep
    obtain ⟨z, p1, e1, z0, z1, hp1⟩ := dr (fu := fu) (m := m - 1) (by omega) n p 6 hp (by omega) (by decide) (by decide)
    have hd1 : (0 : Int) < ((dep + 1 : Nat) : Int) := by omega
    have hd2 : ((dep + 1 : Nat) : Int) - 1 = (dep : Int) := by omega
    generalize hD : ((dep + 1 : Nat) : Int) = dd at *
    rw [run_m (F := ⟨3, 4, F__law_straight⟩) rfl (by omega), bodyRun_eq]
    by_cases h2 : z < 2
    · obtain ⟨d, p2, e2, hd, hp2⟩ := leaf15 (fu := fu) (m := m - 1) (by omega) hp1 (by omega) hs
      refine ⟨d, p2, ?_, hd.le (by omega), hp2.le (by omega)⟩
      simp [F__law_straight, e1, hd1, h2, e2]
    by_cases h4 : z < 4
    · obtain ⟨s, p2, e2, hs2, hp2⟩ := pk8 (fu := fu) (m := m - 1) (by omega) (n + 1) p1 [.str "add", .str "sub"] hp1 (by omega) (by simp) (by simp)
      obtain ⟨a, p3, e3, ha, hp3⟩ := straight16 hs dep (m - 1) (n + 1 + 1) p2 (by omega) hp2 (by omega)
      obtain ⟨b, p4, e4, hb, hp4⟩ := straight16 hs dep (m - 1) (n + 1 + 1 + cost dep) p3 (by omega) hp3 (by omega)
      have hsx : ∃ x, s = .str x ∧ (x = Str.ofString "add" ∨ x = Str.ofString "sub") := by
        simp at hs2
        rcases hs2 with q | q
        · exact ⟨_, q, .inl rfl⟩
        · exact ⟨_, q, .inr rfl⟩
      obtain ⟨x, rfl, hx⟩ := hsx
      refine ⟨.tup [.str x, a, b], p4, ?_, .inr (.inl ⟨x, a, b, hx, ha, hb, rfl⟩), hp4.le (by omega)⟩
      simp [F__law_straight, e1, hd1, h2, h4, e2, hd2, e3, e4]
    by_cases h5 : z = 4
    · subst h5
      obtain ⟨a, p3, e3, ha, hp3⟩ := straight16 hs dep (m - 1) (n + 1) p1 (by omega) hp1 (by omega)
      refine ⟨.tup [.str "neg", a], p3, ?_, .inr (.inr (.inl ⟨a, ha, rfl⟩)), hp3.le (by omega)⟩
      simp [F__law_straight, e1, hd1, hd2, e3]
    · have hb : (z == 4) = false := by simpa using h5
      obtain ⟨r, p2, e2, hr, hp2⟩ := sr14 (fu := fu) (m := m - 1) (by omega) hp1 (by omega)
      obtain ⟨a, p3, e3, ha, hp3⟩ := straight16 hs dep (m - 1) (n + 1 + 1) p2 (by omega) hp2 (by omega)
      refine ⟨.tup [.str "times", r, a], p3, ?_, .inr (.inr (.inr (.inl ⟨r, a, hr, ha, rfl⟩))), hp3.le (by omega)⟩
      simp [F__law_straight, e1, hd1, h2, h4, hb, e2, hd2, e3]
end
end K44

/-! K44u -/
namespace K44
open PySem PySem.Spec PyProof.Rows L2 Kn

section
variable {fu : Nat}
def rm (r : Int) : D := .lst [.int r]
@[simp] theorem rm_get (r : Int) : gIdx (rm r) (.int 0) = some (.val (.int r)) := by
  unfold rm
  rw [gIdx_lst, atI_0]
  rfl
@[simp] theorem rm_set (r x : Int) : gSet (rm r) (.int 0) (.int x) = some (rm x) := rfl
theorem cost2 {k : Nat} (h : k ≤ 2) : cost k ≤ 52 := by
  match k, h with
  | 0, _ => decide
  | 1, _ => decide
  | 2, _ => decide
def cb : Nat → Nat
  | 0 => 60
  | d + 1 => 80 + 3 * cb d
theorem cb_le (d : Nat) : 60 ≤ cb d := by cases d <;> simp [cb]; omega
/-- the parts of a greatest or least value -/
abbrev partE : Sm := (sCall 17 (sKCons 2 (sVar 0) (sKCons 0 (sVar 1) (sKCons 2 (sVar 2) (sKCons 0 (sOp2 gSub (sVar 3) (sC (.int 1))) sKNil)))))
def BendOk (fu : Nat) (ns : List D) (dep : Nat) : Prop := ∀ (m n : Nat) (p : D) (r : Int), dep + 9 ≤ m → IsPen n p → n + cb dep < 900000000 → ∃ d p' r', run fu m 17 [.bor p, .val (.lst ns), .bor (rm r), .val (.int (dep : Int))] = .ok (.val d) [.bor p', .non, .bor (rm r'), .non] ∧ IsEx (dep + 2) d ∧ IsPen (n + cb dep) p'
theorem parts_ok {ns : List D} {dep : Nat} (ih : BendOk fu ns dep) {m : Nat} (hm : dep + 9 ≤ m) (way : Slot) (dd : Int) (hd : dd - 1 = (dep : Int)) : ∀ (ms acc : List D) (n : Nat) (p : D) (r : Int), (∀ x ∈ ms, ∃ i, x = .int i) → acc.length + ms.length < 1000 → IsPen n p → n + ms.length * cb dep < 900000000 → (∀ e ∈ acc, IsEx (dep + 2) e) →
    ∃ es p' r', cmL (CC fu m) (tgN 7) sYes partE [7] ms acc [.bor p, .val (.lst ns), .bor (rm r), .val (.int dd), way, .non, .non, .non] = .ok es [.bor p', .val (.lst ns), .bor (rm r'), .val (.int dd), way, .non, .non, .non] ∧ es.length = acc.length + ms.length ∧ (∀ e ∈ es, IsEx (dep + 2) e) ∧ IsPen (n + ms.length * cb dep) p'
  | [], acc, n, p, r, _, _, hp, _, ha => ⟨acc, p, r, rfl, rfl, ha, by simpa using hp⟩
  | x :: ms, acc, n, p, r, hx, hl, hp, hn, ha => by
    obtain ⟨i, rfl⟩ := hx x List.mem_cons_self
    rw [List.length_cons] at hl hn
    have hmul : (ms.length + 1) * cb dep = ms.length * cb dep + cb dep := Nat.succ_mul _ _
    obtain ⟨e, p1, r1, e1, he, hp1⟩ := ih m n p r hm hp (by omega)
    obtain ⟨es, p2, r2, e2, h1, h2, h3⟩ := parts_ok ih hm way dd hd ms (acc ++ [e]) (n + cb dep) p1 r1 (fun y hy => hx y (List.mem_cons_of_mem _ hy)) (by simp; omega) hp1 (by omega) (fun y hy => by
      rcases List.mem_append.mp hy with q | q
      · exact ha y q
      · rw [List.mem_singleton.mp q]; exact he)
    refine ⟨es, p2, r2, ?_, by rw [h1]; simp; omega, h2, by rw [List.length_cons, hmul]; exact h3.le (by omega)⟩
    rw [← e2]
    have hz : acc.length < 16777216 := by omega
    conv => lhs; unfold cmL
    simp [sYes, hd, e1, hz, wipeE]
theorem bend0 {ns : List D} (hs : Nms ns) {m n : Nat} {p : D} {r : Int} {dep : Nat} (hm : 9 ≤ m) (hp : IsPen n p) (hn : n + 60 < 900000000) : ∃ d p', run fu (m - 1) 16 [.bor p, .val (.lst ns), .val (.int (if (2 : Int) < (dep : Int) then 2 else (dep : Int)))] = .ok (.val d) [.bor p', .non, .non] ∧ IsEx (dep + 2) d ∧ IsPen (n + 52) p' := by
  obtain ⟨k, hk, hk2, hkd⟩ : ∃ k : Nat, (if (2 : Int) < (dep : Int) then 2 else (dep : Int)) = (k : Int) ∧ k ≤ 2 ∧ k ≤ dep := by
    by_cases q : 2 < dep
    · exact ⟨2, by rw [if_pos (by omega)]; rfl, Nat.le_refl _, by omega⟩
    · exact ⟨dep, by rw [if_neg (by omega)], by omega, Nat.le_refl _⟩
  have hc := cost2 hk2
  obtain ⟨d, p', e, hd, hp'⟩ := straight16 (fu := fu) hs k (m - 1) n p (by omega) hp (by omega)
  rw [hk]
  exact ⟨d, p', e, hd.le (by omega), hp'.le (by omega)⟩
theorem gMin_int (a b : Int) : gMin [.int a, .int b] = some (.val (.int (if b < a then b else a))) := rfl
theorem gMax_int (a b : Int) : gMax [.int a, .int b] = some (.val (.int (if b > a then b else a))) := rfl
theorem bending17 (hfu : 100000000 ≤ fu) {ns : List D} (hs : Nms ns) : ∀ dep, BendOk fu ns dep
  | 0 => by
    intro m n p r hm hp hn
    obtain ⟨d, p1, e1, hd, hp1⟩ := bend0 (fu := fu) (r := r) (dep := 0) hs hm hp (by simpa [cb] using hn)
    refine ⟨d, p1, r, ?_, hd, hp1.le (by simp [cb])⟩
    rw [run_m (F := ⟨4, 8, F__law_bending⟩) rfl (by omega), bodyRun_eq]
    have e1' : run fu (m - 1) 16 [.bor p, .val (.lst ns), .val (.int 0)] = .ok (.val d) [.bor p1, .non, .non] := e1
    simp [F__law_bending, gMin_int, e1']
  | dep + 1 => by
    have ih := bending17 hfu hs dep
    intro m n p r hm hp hn
    have hcb := cb_le dep
    have hcc : cb (dep + 1) = 80 + 3 * cb dep := rfl
    rw [hcc] at hn ⊢
    obtain ⟨z, p1, e1, z0, z1, hp1⟩ := dr (fu := fu) (m := m - 1) (by omega) n p 9 hp (by omega) (by decide) (by decide)
    have hd1 : (0 : Int) < ((dep + 1 : Nat) : Int) := by omega
    have hd2 : ((dep + 1 : Nat) : Int) - 1 = (dep : Int) := by omega
    obtain ⟨d0, p0, e0, hd0, hp0⟩ := bend0 (fu := fu) (r := r) (dep := dep + 1) hs (m := m) (by omega) hp1 (by omega)
    generalize hD : ((dep + 1 : Nat) : Int) = dd at *
    rw [run_m (F := ⟨4, 8, F__law_bending⟩) rfl (by omega), bodyRun_eq]
    by_cases h2 : z < 2
    · refine ⟨d0, p0, r, ?_, hd0, hp0.le (by omega)⟩
      simp [F__law_bending, e1, hd1, h2, gMin_int, e0]
    by_cases hr : r ≤ 0
    · refine ⟨d0, p0, r, ?_, hd0, hp0.le (by omega)⟩
      simp [F__law_bending, e1, hd1, h2, hr, gMin_int, e0]
    by_cases h5 : z < 5
    · obtain ⟨s, p2, e2, hs2, hp2⟩ := pk8 (fu := fu) (m := m - 1) (by omega) (n + 1) p1 [.str "knee", .str "knee", .str "abs"] hp1 (by omega) (by simp) (by simp)
      have hsx : ∃ x, s = .str x ∧ (x = Str.ofString "knee" ∨ x = Str.ofString "abs") := by
        simp at hs2
        rcases hs2 with q | q
        · exact ⟨_, q, .inl rfl⟩
        · exact ⟨_, q, .inr rfl⟩
      obtain ⟨x, rfl, hx⟩ := hsx
      obtain ⟨a, p3, r3, e3, ha, hp3⟩ := ih (m - 1) (n + 1 + 1) p2 (r - 1) (by omega) hp2 (by omega)
      refine ⟨.tup [.str x, a], p3, r3, ?_, .inr (.inr (.inr (.inr (.inl ⟨x, a, hx, ha, rfl⟩)))), hp3.le (by omega)⟩
      simp [F__law_bending, e1, hd1, h2, hr, h5, e2, hd2, e3]
    by_cases h6 : z = 5
    · subst h6
      obtain ⟨kd, p2, e2, hk2, hp2⟩ := pk8 (fu := fu) (m := m - 1) (by omega) (n + 1) p1 [.int 2, .int 2, .int 3] hp1 (by omega) (by simp) (by simp)
      obtain ⟨k, rfl, hk⟩ : ∃ k : Nat, kd = .int (k : Int) ∧ (k = 2 ∨ k = 3) := by
        simp at hk2
        rcases hk2 with q | q
        · exact ⟨2, q, .inl rfl⟩
        · exact ⟨3, q, .inr rfl⟩
      have hmul : k * cb dep ≤ 3 * cb dep := Nat.mul_le_mul_right _ (by omega)
      obtain ⟨es, p3, r3, e3, h31, h32, hp3⟩ := parts_ok ih (m := m - 1) (by omega) (.val (.int 5)) dd hd2 (rangeD 0 k) [] (n + 1 + 1) p2 r (fun x hx => by
        unfold rangeD at hx
        rw [List.mem_map] at hx
        obtain ⟨j, _, rfl⟩ := hx
        exact ⟨_, rfl⟩) (by simp [rangeD]; omega) hp2 (by simp [rangeD]; omega) (by simp)
      have hrl : (rangeD 0 k).length = k := by simp [rangeD]
      rw [hrl] at h31 hp3
      obtain ⟨s, p4, e4, hs4, hp4⟩ := pk8 (fu := fu) (m := m - 1) (by omega) _ p3 [.str "max", .str "min"] hp3 (by omega) (by simp) (by simp)
      have hsx : ∃ x, s = .str x ∧ (x = Str.ofString "max" ∨ x = Str.ofString "min") := by
        simp at hs4
        rcases hs4 with q | q
        · exact ⟨_, q, .inl rfl⟩
        · exact ⟨_, q, .inr rfl⟩
      obtain ⟨x, rfl, hx⟩ := hsx
      have hrg : rgOk (k : Int) := rgOk_nat (by omega)
      refine ⟨.tup [.str x, .tup es], p4, r3 - (es.length : Int) + 1, ?_, .inr (.inr (.inr (.inr (.inr (.inl ⟨x, es, hx, ?_, by simp at h31; omega, h32, rfl⟩))))), hp4.le (by omega)⟩
      · simp [F__law_bending, e1, hd1, hr, sLc, e2, hrg, plainAt, wipeE, e3, restoreE, e4]
      · intro q
        rw [q] at h31
        simp at h31
        omega
    have b5 : (z == 5) = false := by simpa using h6
    by_cases h7 : z = 6 ∧ 1 < r
    · obtain ⟨h7, h8⟩ := h7
      subst h7
      obtain ⟨lo, p2, e2, hl2, hp2⟩ := pk8 (fu := fu) (m := m - 1) (by omega) (n + 1) p1 [.tup [.int 0, .int 1], .tup [.int (-1), .int 1], .tup [.int (-1), .int 2], .tup [.int 1, .int 2]] hp1 (by omega) (by simp) (by simp)
      obtain ⟨a, p3, r3, e3, ha, hp3⟩ := ih (m - 1) (n + 1 + 1) p2 (r - 2) (by omega) hp2 (by omega)
      obtain ⟨w, p4, e4, hl4, hp4⟩ := pk8 (fu := fu) (m := m - 1) (by omega) _ p3 [.tup [.int 1, .int 1], .tup [.int 2, .int 1], .tup [.int 1, .int 2], .tup [.int 0, .int 1]] hp3 (by omega) (by simp) (by simp)
      have hlo : IsRat 2 lo := by
        simp at hl2
        rcases hl2 with q | q | q | q <;> subst q <;> exact ⟨_, _, rfl, by decide, by decide, by decide⟩
      have hw : IsRat 2 w := by
        simp at hl4
        rcases hl4 with q | q | q | q <;> subst q <;> exact ⟨_, _, rfl, by decide, by decide, by decide⟩
      obtain ⟨hi, e5, hhi⟩ := ad13 (fu := fu) hfu (m := m - 1) (by omega) 2 2 lo w hlo hw (by decide) (by decide)
      refine ⟨.tup [.str "clip", a, lo, hi], p4, r3, ?_, .inr (.inr (.inr (.inr (.inr (.inr ⟨a, lo, hi, ha, hlo.le (by decide), hhi.le (by decide), rfl⟩))))), hp4.le (by omega)⟩
      simp [F__law_bending, e1, hd1, hr, h8, e2, hd2, e3, e4, e5]
    by_cases h8 : z = 7
    · subst h8
      obtain ⟨q, p2, e2, hq, hp2⟩ := sr14 (fu := fu) (m := m - 1) (by omega) hp1 (by omega)
      obtain ⟨a, p3, r3, e3, ha, hp3⟩ := ih (m - 1) (n + 1 + 1) p2 r (by omega) hp2 (by omega)
      refine ⟨.tup [.str "times", q, a], p3, r3, ?_, .inr (.inr (.inr (.inl ⟨q, a, hq, ha, rfl⟩))), hp3.le (by omega)⟩
      simp [F__law_bending, e1, hd1, hr, e2, hd2, e3]
    · have b7 : (z == 7) = false := by simpa using h8
      obtain ⟨s, p2, e2, hs2, hp2⟩ := pk8 (fu := fu) (m := m - 1) (by omega) (n + 1) p1 [.str "add", .str "sub"] hp1 (by omega) (by simp) (by simp)
      have hsx : ∃ x, s = .str x ∧ (x = Str.ofString "add" ∨ x = Str.ofString "sub") := by
        simp at hs2
        rcases hs2 with q | q
        · exact ⟨_, q, .inl rfl⟩
        · exact ⟨_, q, .inr rfl⟩
      obtain ⟨x, rfl, hx⟩ := hsx
      obtain ⟨a, p3, r3, e3, ha, hp3⟩ := ih (m - 1) (n + 1 + 1) p2 r (by omega) hp2 (by omega)
      have hc1 : cost 1 = 16 := rfl
      obtain ⟨b, p4, e4, hb, hp4⟩ := straight16 (fu := fu) hs 1 (m - 1) _ p3 (by omega) hp3 (by omega)
      have e4' : run fu (m - 1) 16 [.bor p3, .val (.lst ns), .val (.int 1)] = .ok (.val b) [.bor p4, .non, .non] := e4
      refine ⟨.tup [.str x, a, b], p4, r3, ?_, .inr (.inl ⟨x, a, b, hx, ha, hb.le (by omega), rfl⟩), hp4.le (by omega)⟩
      cases h76 : (z == 6) with
      | false => simp [F__law_bending, e1, hd1, h2, hr, h5, b5, h76, b7, e2, hd2, e3, e4']
      | true =>
        have h9 : ¬ 1 < r := fun q => h7 ⟨by simpa using h76, q⟩
        simp [F__law_bending, e1, hd1, h2, hr, h5, b5, h76, h9, b7, e2, hd2, e3, e4']
end
end K44

/-! K44v -/
namespace K44
open PySem PySem.Spec PyProof.Rows L2 Kn

section
variable {fu : Nat}
/-! ### drawn claims -/
def IsCl : Nat → D → Prop
  | 0, d => ∃ s a b, (s = Str.ofString "most" ∨ s = Str.ofString "less" ∨ s = Str.ofString "same") ∧ IsEx 4 a ∧ IsEx 4 b ∧ d = .tup [.str s, a, b]
  | n + 1, d => IsCl n d ∨ (∃ a, IsCl n a ∧ d = .tup [.str "not", a]) ∨ (∃ s a b, (s = Str.ofString "and" ∨ s = Str.ofString "or") ∧ IsCl n a ∧ IsCl n b ∧ d = .tup [.str s, a, b])
theorem IsCl.le {n m : Nat} {d : D} (h : IsCl n d) (hl : n ≤ m) : IsCl m d := by
  induction hl with
  | refl => exact h
  | step _ ih => exact .inl ih
def cc : Nat → Nat
  | 0 => 400
  | d + 1 => 400 + 2 * cc d
theorem cc_le (d : Nat) : 400 ≤ cc d := by cases d <;> simp [cc]
def clWay : Sg := (sSet 4 (sIte (sB (sOp2 gGt (sVar 3) (sC (.int 0)))) (sCall 7 (sKCons 2 (sVar 0) (sKCons 0 (sC (.int 7)) sKNil))) (sCall 7 (sKCons 2 (sVar 0) (sKCons 0 (sC (.int 3)) sKNil)))))
def clIf : Sg := (sIf (sB (sOp2 gLt (sVar 4) (sC (.int 4)))) (sSeq (sPar [5, 6] (sKCons 1 (sCall 16 (sKCons 2 (sVar 0) (sKCons 0 (sVar 1) (sKCons 0 (sC (.int 1)) sKNil)))) (sKCons 1 (sCall 16 (sKCons 2 (sVar 0) (sKCons 0 (sVar 1) (sKCons 0 (sC (.int 1)) sKNil)))) sKNil)))
  (sSeq (sIf (sAndT (sB (sOp2 gGt (sOp2 gIdx (sVar 2) (sC (.int 0))) (sC (.int 0)))) (sB (sOp2 gEq (sCall 7 (sKCons 2 (sVar 0) (sKCons 0 (sC (.int 4)) sKNil))) (sC (.int 0))))) (sSet 5 (sCall 17 (sKCons 2 (sVar 0) (sKCons 0 (sVar 1) (sKCons 2 (sVar 2) (sKCons 0 (sC (.int 1)) sKNil)))))) sSkip)
  (sRet (sTup (sCons (sCall 8 (sKCons 2 (sVar 0) (sKCons 0 (sLst (sCons (sC (.str "most")) (sCons (sC (.str "less")) (sCons (sC (.str "most")) (sCons (sC (.str "less")) (sCons (sC (.str "same")) sNil)))))) sKNil))) (sCons (sVar 5) (sCons (sVar 6) sNil))))))) sSkip)
def clRest : Sg := (sSeq (sIf (sB (sOp2 gEq (sVar 4) (sC (.int 4)))) (sRet (sTup (sCons (sC (.str "not")) (sCons (sCall 19 (sKCons 2 (sVar 0) (sKCons 0 (sVar 1) (sKCons 2 (sVar 2) (sKCons 0 (sOp2 gSub (sVar 3) (sC (.int 1))) sKNil))))) sNil)))) sSkip)
  (sRet (sTup (sCons (sCall 8 (sKCons 2 (sVar 0) (sKCons 0 (sLst (sCons (sC (.str "and")) (sCons (sC (.str "or")) sNil))) sKNil))) (sCons (sCall 19 (sKCons 2 (sVar 0) (sKCons 0 (sVar 1) (sKCons 2 (sVar 2) (sKCons 0 (sOp2 gSub (sVar 3) (sC (.int 1))) sKNil))))) (sCons (sCall 19 (sKCons 2 (sVar 0) (sKCons 0 (sVar 1) (sKCons 2 (sVar 2) (sKCons 0 (sOp2 gSub (sVar 3) (sC (.int 1))) sKNil))))) sNil))))))
theorem claim_eq : F__law_claim_drawn = sSeq clWay (sSeq clIf clRest) := rfl
/-- a comparison -/
theorem clBase (hfu : 100000000 ≤ fu) {ns : List D} (hs : Nms ns) (dd : Int) (m n : Nat) (p : D) (r z : Int) (hm : 12 ≤ m) (hp : IsPen n p) (hn : n + 390 < 900000000) (hz : z < 4) : ∃ d p' r', finO 4 ((clIf (CC fu (m - 1)) [.bor p, .val (.lst ns), .bor (rm r), .val (.int dd), .val (.int z), .non, .non]).bind fun S1 => clRest (CC fu (m - 1)) S1) = .ok (.val d) [.bor p', .non, .bor (rm r'), .non] ∧ IsCl 0 d ∧ IsPen (n + 390) p' := by
  have hc1 : cost 1 = 16 := rfl
  have hb1 : cb 1 = 260 := rfl
  obtain ⟨a, p1, e1, ha, hp1⟩ := straight16 (fu := fu) hs 1 (m - 1) n p (by omega) hp (by omega)
  obtain ⟨b, p2, e2, hb, hp2⟩ := straight16 (fu := fu) hs 1 (m - 1) _ p1 (by omega) hp1 (by omega)
  have e1' : run fu (m - 1) 16 [.bor p, .val (.lst ns), .val (.int 1)] = .ok (.val a) [.bor p1, .non, .non] := e1
  have e2' : run fu (m - 1) 16 [.bor p1, .val (.lst ns), .val (.int 1)] = .ok (.val b) [.bor p2, .non, .non] := e2
  have last : ∀ (p3 : D) (n3 : Nat), IsPen n3 p3 → n3 < 900000000 → ∃ x p4, run fu (m - 1) 8 [.bor p3, .val (.lst [.str "most", .str "less", .str "most", .str "less", .str "same"])] = .ok (.val (.str x)) [.bor p4, .non] ∧ (x = Str.ofString "most" ∨ x = Str.ofString "less" ∨ x = Str.ofString "same") ∧ IsPen (n3 + 1) p4 := by
    intro p3 n3 h3 hn3
    obtain ⟨s, p4, e4, hs4, hp4⟩ := pk8 (fu := fu) (m := m - 1) (by omega) n3 p3 [.str "most", .str "less", .str "most", .str "less", .str "same"] h3 (by omega) (by simp) (by simp)
    simp only [List.mem_cons, List.not_mem_nil, or_false] at hs4
    rcases hs4 with q | q | q | q | q <;> subst q
    · exact ⟨_, p4, e4, .inl rfl, hp4⟩
    · exact ⟨_, p4, e4, .inr (.inl rfl), hp4⟩
    · exact ⟨_, p4, e4, .inl rfl, hp4⟩
    · exact ⟨_, p4, e4, .inr (.inl rfl), hp4⟩
    · exact ⟨_, p4, e4, .inr (.inr rfl), hp4⟩
  by_cases hr : 0 < r
  · obtain ⟨y, p3, e3, _, _, hp3⟩ := dr (fu := fu) (m := m - 1) (by omega) _ p2 4 hp2 (by omega) (by decide) (by decide)
    by_cases hy : y = 0
    · subst hy
      obtain ⟨a2, p4, r4, e4, ha4, hp4⟩ := bending17 hfu hs 1 (m - 1) _ p3 r (by omega) hp3 (by omega)
      have e4' : run fu (m - 1) 17 [.bor p3, .val (.lst ns), .bor (rm r), .val (.int 1)] = .ok (.val a2) [.bor p4, .non, .bor (rm r4), .non] := e4
      obtain ⟨x, p5, e5, hx, hp5⟩ := last p4 _ hp4 (by omega)
      refine ⟨.tup [.str x, a2, b], p5, r4, ?_, ⟨x, a2, b, hx, ha4.le (by omega), hb.le (by omega), rfl⟩, hp5.le (by omega)⟩
      simp [clIf, hz, e1', e2', hr, e3, e4', e5]
    · have hy' : (y == 0) = false := by simpa using hy
      obtain ⟨x, p5, e5, hx, hp5⟩ := last p3 _ hp3 (by omega)
      refine ⟨.tup [.str x, a, b], p5, r, ?_, ⟨x, a, b, hx, ha.le (by omega), hb.le (by omega), rfl⟩, hp5.le (by omega)⟩
      simp [clIf, hz, e1', e2', hr, e3, hy', e5]
  · obtain ⟨x, p5, e5, hx, hp5⟩ := last p2 _ hp2 (by omega)
    refine ⟨.tup [.str x, a, b], p5, r, ?_, ⟨x, a, b, hx, ha.le (by omega), hb.le (by omega), rfl⟩, hp5.le (by omega)⟩
    simp [clIf, hz, e1', e2', hr, e5]
theorem claim19 (hfu : 100000000 ≤ fu) {ns : List D} (hs : Nms ns) : ∀ (dep m n : Nat) (p : D) (r : Int), dep + 12 ≤ m → IsPen n p → n + cc dep < 900000000 → ∃ d p' r', run fu m 19 [.bor p, .val (.lst ns), .bor (rm r), .val (.int (dep : Int))] = .ok (.val d) [.bor p', .non, .bor (rm r'), .non] ∧ IsCl dep d ∧ IsPen (n + cc dep) p'
  | 0, m, n, p, r, hm, hp, hn => by
    have hcc : cc 0 = 400 := rfl
    rw [hcc] at hn ⊢
    obtain ⟨z, p1, e1, z0, z1, hp1⟩ := dr (fu := fu) (m := m - 1) (by omega) n p 3 hp (by omega) (by decide) (by decide)
    obtain ⟨d, p2, r2, e2, h2, hp2⟩ := clBase hfu hs 0 m (n + 1) p1 r z (by omega) hp1 (by omega) (by omega)
    refine ⟨d, p2, r2, ?_, h2, hp2.le (by omega)⟩
    rw [run_m (F := ⟨4, 7, F__law_claim_drawn⟩) rfl (by omega), bodyRun_eq, claim_eq, ← e2]
    simp [clWay, e1]
  | dep + 1, m, n, p, r, hm, hp, hn => by
    have hcl := cc_le dep
    have hcc : cc (dep + 1) = 400 + 2 * cc dep := rfl
    rw [hcc] at hn ⊢
    obtain ⟨z, p1, e1, z0, z1, hp1⟩ := dr (fu := fu) (m := m - 1) (by omega) n p 7 hp (by omega) (by decide) (by decide)
    have hd1 : (0 : Int) < ((dep + 1 : Nat) : Int) := by omega
    have hd2 : ((dep + 1 : Nat) : Int) - 1 = (dep : Int) := by omega
    generalize hD : ((dep + 1 : Nat) : Int) = dd at *
    rw [run_m (F := ⟨4, 7, F__law_claim_drawn⟩) rfl (by omega), bodyRun_eq, claim_eq]
    by_cases h4 : z < 4
    · obtain ⟨d, p2, r2, e2, h2, hp2⟩ := clBase hfu hs dd m (n + 1) p1 r z (by omega) hp1 (by omega) h4
      refine ⟨d, p2, r2, ?_, h2.le (by omega), hp2.le (by omega)⟩
      rw [← e2]
      simp [clWay, e1, hd1]
    by_cases h5 : z = 4
    · subst h5
      obtain ⟨a, p2, r2, e2, ha, hp2⟩ := claim19 hfu hs dep (m - 1) (n + 1) p1 r (by omega) hp1 (by omega)
      refine ⟨.tup [.str "not", a], p2, r2, ?_, .inr (.inl ⟨a, ha, rfl⟩), hp2.le (by omega)⟩
      simp [clWay, clIf, clRest, e1, hd1, hd2, e2]
    · have b5 : (z == 4) = false := by simpa using h5
      obtain ⟨s, p2, e2, hs2, hp2⟩ := pk8 (fu := fu) (m := m - 1) (by omega) (n + 1) p1 [.str "and", .str "or"] hp1 (by omega) (by simp) (by simp)
      have hsx : ∃ x, s = .str x ∧ (x = Str.ofString "and" ∨ x = Str.ofString "or") := by
        simp only [List.mem_cons, List.not_mem_nil, or_false] at hs2
        rcases hs2 with q | q
        · exact ⟨_, q, .inl rfl⟩
        · exact ⟨_, q, .inr rfl⟩
      obtain ⟨x, rfl, hx⟩ := hsx
      obtain ⟨a, p3, r3, e3, ha, hp3⟩ := claim19 hfu hs dep (m - 1) _ p2 r (by omega) hp2 (by omega)
      obtain ⟨b, p4, r4, e4, hb, hp4⟩ := claim19 hfu hs dep (m - 1) _ p3 r3 (by omega) hp3 (by omega)
      refine ⟨.tup [.str x, a, b], p4, r4, ?_, .inr (.inr ⟨x, a, b, hx, ha, hb, rfl⟩), hp4.le (by omega)⟩
      simp [clWay, clIf, clRest, e1, hd1, h4, b5, hd2, e2, e3, e4]
end
end K44

/-! K44p -/
namespace K44
open PySem PySem.Spec PyProof.Rows L2 Kn

/-! ### clean data -/
theorem clns_all : ∀ {ds : List D}, (∀ d ∈ ds, cln d = true) → clns ds = true
  | [], _ => rfl
  | d :: ds, h => by
    unfold clns
    rw [h d List.mem_cons_self, clns_all fun e he => h e (List.mem_cons_of_mem _ he)]
    rfl
theorem deps_le {k : Nat} : ∀ {ds : List D}, (∀ d ∈ ds, dep d ≤ k) → deps ds ≤ k
  | [], _ => Nat.zero_le _
  | d :: ds, h => by
    unfold deps
    exact Nat.max_le.mpr ⟨h d List.mem_cons_self, deps_le fun e he => h e (List.mem_cons_of_mem _ he)⟩
theorem okD_of {d : D} {k : Nat} (h : cln d = true) (h2 : dep d ≤ k) (hk : k ≤ 64) : okD d = true := by
  unfold okD
  rw [h, decide_eq_true (Nat.le_trans h2 hk)]
  rfl
theorem ltS : ∀ c ∈ signsL, c < 1114112 := by decide +kernel
theorem IsNm.cl {d : D} (h : IsNm d) : cln d = true ∧ dep d = 0 := by
  obtain ⟨w, rfl, c, r, e, h1, h2, h3⟩ := h
  have := okD_mk (w := w) fun x hx => ltS x (h2 x hx)
  unfold okD at this
  rw [Bool.and_eq_true] at this
  exact ⟨this.1, rfl⟩
theorem rat_cl {N : Nat} {d : D} (h : IsRat N d) : cln d = true ∧ dep d ≤ 1 := by
  obtain ⟨t, b, rfl, _⟩ := h
  exact ⟨rfl, Nat.le_refl 1⟩
def IsRow (d : D) : Prop := ∃ nm lo hi, IsNm nm ∧ IsRat 24 lo ∧ IsRat 24 hi ∧ d = .tup [nm, lo, hi]
theorem IsRow.cl {d : D} (h : IsRow d) : cln d = true ∧ dep d ≤ 2 := by
  obtain ⟨nm, lo, hi, h1, h2, h3, rfl⟩ := h
  refine ⟨?_, ?_⟩
  · show clns [nm, lo, hi] = true
    exact clns_all (by simp [h1.cl.1, (rat_cl h2).1, (rat_cl h3).1])
  · show deps [nm, lo, hi] + 1 ≤ 2
    have := deps_le (k := 1) (ds := [nm, lo, hi]) (by simp [h1.cl.2, (rat_cl h2).2, (rat_cl h3).2])
    omega
theorem gNe_nil {ds : List D} (h : ∀ d ∈ ds, cln d = true ∧ dep d ≤ 2) : gNe (.lst ds) (.lst []) = some (.val (.bl (!ds.isEmpty))) := by
  have h1 : okD (.lst ds) = true := okD_of (k := 3) (clns_all fun d hd => (h d hd).1) (Nat.succ_le_succ (deps_le fun d hd => (h d hd).2)) (by decide)
  show (if okD (.lst ds) = true ∧ okD (.lst []) = true then some (R.val (.bl (!eqDs ds []))) else none) = _
  rw [if_pos ⟨h1, rfl⟩]
  cases ds <;> rfl
theorem gSl_lst (ds : List D) (k : Nat) : gSl (.lst ds) none (some (k : Int)) = some (.fr (.lst (ds.take k))) := by
  show some (R.fr (.lst (Kn.cutD ds none (some (k : Int))))) = _
  unfold Kn.cutD
  rw [HT.sIx_nat, HT.sIx_none, Nat.sub_zero, List.drop_zero]
  by_cases h : k ≤ ds.length
  · rw [Nat.min_eq_left h]
  · rw [Nat.min_eq_right (by omega), List.take_of_length_le (Nat.le_refl _), List.take_of_length_le (by omega)]
section
variable {fu : Nat}
theorem nm_of {s : String} {w : List Nat} (h : D.str (Str.ofString s) = .str (mk w)) (g : GoodName w) : IsNm (.str (Str.ofString s)) := ⟨w, h, g⟩
theorem inNames : ∀ d ∈ ([.str "x", .str "y", .str "speed", .str "in_2"] : List D), IsNm d := by
  have k : ∀ w : List Nat, (match w with | [] => False | c :: _ => c ∈ lettersL) → (∀ x ∈ w, x ∈ signsL) → w.length ≤ 12 → GoodName w := fun w h1 h2 h3 => by
    cases w with
    | nil => exact h1.elim
    | cons c r => exact ⟨c, r, rfl, h1, h2, h3⟩
  simp only [List.forall_mem_cons]
  refine ⟨⟨[120], by kernel_rfl, k _ (by decide +kernel) (by decide +kernel) (by decide)⟩, ⟨[121], by kernel_rfl, k _ (by decide +kernel) (by decide +kernel) (by decide)⟩, ⟨[115, 112, 101, 101, 100], by kernel_rfl, k _ (by decide +kernel) (by decide +kernel) (by decide)⟩, ⟨[105, 110, 95, 50], by kernel_rfl, k _ (by decide +kernel) (by decide +kernel) (by decide)⟩, by simp⟩
theorem inputs18 (hfu : 100000000 ≤ fu) {m n : Nat} {p : D} (hm : 5 ≤ m) (hp : IsPen n p) (hn : n < 800000000) : ∃ rows p', run fu m 18 [.bor p] = .ok (.val (.tup rows)) [.bor p'] ∧ (∀ d ∈ rows, IsRow d) ∧ rows ≠ [] ∧ rows.length ≤ 3 ∧ IsPen (n + 20) p' := by
  obtain ⟨es, p1, e1, h1, h1l, hp1⟩ := sh9 (fu := fu) (m := m - 1) (by omega) n p [.str "x", .str "y", .str "speed", .str "in_2"] hp (by omega) (by simp)
  obtain ⟨kd, p2, e2, hk2, hp2⟩ := pk8 (fu := fu) (m := m - 1) (by omega) _ p1 [.int 1, .int 2, .int 2, .int 3] hp1 (by simp; omega) (by simp) (by simp)
  obtain ⟨k, rfl, hk⟩ : ∃ k : Nat, kd = .int (k : Int) ∧ (1 ≤ k ∧ k ≤ 3) := by
    simp only [List.mem_cons, List.not_mem_nil, or_false] at hk2
    rcases hk2 with q | q | q | q
    · exact ⟨1, q, by omega⟩
    · exact ⟨2, q, by omega⟩
    · exact ⟨2, q, by omega⟩
    · exact ⟨3, q, by omega⟩
  rw [run_m (F := ⟨1, 4, F__law_inputs_drawn⟩) rfl (by omega), bodyRun_eq]
  simp [F__law_inputs_drawn, e1, e2, gSl_lst]
  simp at h1l
  have hp2' : IsPen (n + 5) p2 := hp2.le (by simp)
  refine forL_ind (P := fun o => ∃ rows p', finO 1 (o.bind _) = .ok (.val (.tup rows)) [.bor p'] ∧ (∀ d ∈ rows, IsRow d) ∧ rows ≠ [] ∧ rows.length ≤ 3 ∧ IsPen (n + 20) p') (fun ds S => ∃ (fnd : List D) (q : D) (s2 s3 : Slot), free s2 = true ∧ free s3 = true ∧ (∀ d ∈ ds, IsNm d) ∧ fnd.length + ds.length = (es.take k).length ∧ (∀ d ∈ fnd, IsRow d) ∧ IsPen (n + 5 + 3 * fnd.length) q ∧ S = [.bor q, .own (.lst fnd), s2, s3]) ⟨[], p2, .non, .non, rfl, rfl, fun d hd => inNames d (h1 d (List.mem_of_mem_take hd)), by simp, by simp, hp2', rfl⟩ ?_ ?_
  · rintro d ds S ⟨fnd, q, s2, s3, f2, f3, hd, hl, hf, hq, rfl⟩
    have hlk : (es.take k).length ≤ 3 := by rw [List.length_take]; omega
    rw [List.length_cons] at hl
    obtain ⟨lo, p3, e3, hl3, hp3⟩ := pk8 (fu := fu) (m := m - 1) (by omega) _ q [.tup [.int 0, .int 1], .tup [.int (-1), .int 1], .tup [.int (-2), .int 1], .tup [.int (-1), .int 2], .tup [.int 1, .int 1]] hq (by omega) (by simp) (by simp)
    have hlo : IsRat 2 lo := by
      simp only [List.mem_cons, List.not_mem_nil, or_false] at hl3
      rcases hl3 with q | q | q | q | q <;> subst q <;> exact ⟨_, _, rfl, by decide, by decide, by decide⟩
    obtain ⟨w, p4, e4, hl4, hp4⟩ := pk8 (fu := fu) (m := m - 1) (by omega) _ p3 [.tup [.int 1, .int 1], .tup [.int 2, .int 1], .tup [.int 3, .int 1], .tup [.int 1, .int 2], .tup [.int 4, .int 1], if (!fnd.isEmpty) = true then .tup [.int 0, .int 1] else .tup [.int 2, .int 1]] hp3 (by omega) (by simp) (by simp)
    have hw : IsRat 4 w := by
      simp only [List.mem_cons, List.not_mem_nil, or_false] at hl4
      rcases hl4 with q | q | q | q | q | q
      · subst q; exact ⟨_, _, rfl, by decide, by decide, by decide⟩
      · subst q; exact ⟨_, _, rfl, by decide, by decide, by decide⟩
      · subst q; exact ⟨_, _, rfl, by decide, by decide, by decide⟩
      · subst q; exact ⟨_, _, rfl, by decide, by decide, by decide⟩
      · subst q; exact ⟨_, _, rfl, by decide, by decide, by decide⟩
      · subst q
        split <;> exact ⟨_, _, rfl, by decide, by decide, by decide⟩
    obtain ⟨hi, e5, hhi⟩ := ad13 (fu := fu) hfu (m := m - 1) (by omega) 2 4 lo w hlo hw (by decide) (by decide)
    have hne := gNe_nil fun d hd => (hf d hd).cl
    have hz : fnd.length < 16777216 := by omega
    refine ⟨[.bor q, .own (.lst fnd), .val d, s3], by simp [f2], .inl ⟨[.bor p4, .own (.lst (fnd ++ [.tup [d, lo, hi]])), .val d, .val lo], .inl ?_, fnd ++ [.tup [d, lo, hi]], p4, _, _, rfl, rfl, fun x hx => hd x (List.mem_cons_of_mem _ hx), by rw [List.length_append, List.length_singleton]; omega, fun x hx => ?_, hp4.le (by simp; omega), rfl⟩⟩
    · cases hfe : fnd.isEmpty <;> simp [hfe] at hne e4 <;> simp [f3, e3, hne, e4, e5, hz]
    · rcases List.mem_append.mp hx with r | r
      · exact hf x r
      · rw [List.mem_singleton.mp r]
        exact ⟨d, lo, hi, hd d List.mem_cons_self, hlo.le (by decide), hhi.le (by decide), rfl⟩
  · rintro S ⟨fnd, q, s2, s3, f2, f3, hd, hl, hf, hq, rfl⟩
    have hlk : (es.take k).length ≤ 3 ∧ 1 ≤ (es.take k).length := by rw [List.length_take]; omega
    simp at hl
    refine ⟨fnd, q, by simp, hf, ?_, by simp at hlk; omega, hq.le (by simp at hlk; omega)⟩
    intro e
    rw [e] at hl
    simp at hl hlk
    omega
end
end K44

/-! K44q -/
namespace K44
open PySem PySem.Spec PyProof.Rows L2 Kn

/-- a comprehension that only looks at its items -/
theorem map_ok {C : Cc} {t : Tg} {elt : Sm} {vs : List Nat} (f : D → D) (S : Kn.Env) : ∀ (ds acc : List D), (∀ d ∈ ds, ∃ S1, t d S = some S1 ∧ sFz elt C S1 = .ok (f d) S1 ∧ wipeE S1 vs = S) → acc.length + ds.length < 16777216 → cmL C t sYes elt vs ds acc S = .ok (acc ++ ds.map f) S
  | [], acc, _, _ => by simp [cmL]
  | d :: ds, acc, h, hl => by
    obtain ⟨S1, e1, e2, e3⟩ := h d List.mem_cons_self
    rw [List.length_cons] at hl
    have ih := map_ok f S ds (acc ++ [f d]) (fun x hx => h x (List.mem_cons_of_mem _ hx)) (by rw [List.length_append, List.length_singleton]; omega)
    unfold cmL
    rw [e1]
    simp only [sYes]
    rw [e2]
    have hz : acc.length < 16777216 := by omega
    simp only [if_pos hz]
    rw [e3, ih]
    simp
section
variable {fu : Nat}
def IsNode (d : D) : Prop := ∃ nm e, IsNm nm ∧ IsEx 4 e ∧ d = .tup [nm, e]
def IsClm (d : D) : Prop := ∃ nm k, IsNm nm ∧ IsCl 2 k ∧ d = .tup [nm, k]
def IsTree (d : D) : Prop := ∃ rows nodes outs claims, d = .tup [.tup rows, .tup nodes, .tup outs, .tup claims] ∧ (∀ x ∈ rows, IsRow x) ∧ rows.length ≤ 3 ∧ (∀ x ∈ nodes, IsNode x) ∧ nodes.length ≤ 4 ∧ (∀ x ∈ outs, IsNm x) ∧ outs.length ≤ 3 ∧ (∀ x ∈ claims, IsClm x) ∧ claims.length ≤ 2
theorem gname {w : List Nat} (h1 : match w with | [] => False | c :: _ => c ∈ lettersL) (h2 : ∀ x ∈ w, x ∈ signsL) (h3 : w.length ≤ 12) : GoodName w := by
  cases w with
  | nil => exact h1.elim
  | cons c r => exact ⟨c, r, rfl, h1, h2, h3⟩
theorem nodeNames : ∀ d ∈ ([.str "h", .str "sum", .str "k_1", .str "cost", .str "last"] : List D), IsNm d := by
  simp only [List.forall_mem_cons]
  refine ⟨⟨[104], by kernel_rfl, gname (by decide +kernel) (by decide +kernel) (by decide)⟩, ⟨[115, 117, 109], by kernel_rfl, gname (by decide +kernel) (by decide +kernel) (by decide)⟩, ⟨[107, 95, 49], by kernel_rfl, gname (by decide +kernel) (by decide +kernel) (by decide)⟩, ⟨[99, 111, 115, 116], by kernel_rfl, gname (by decide +kernel) (by decide +kernel) (by decide)⟩, ⟨[108, 97, 115, 116], by kernel_rfl, gname (by decide +kernel) (by decide +kernel) (by decide)⟩, by simp⟩
theorem claimNames : ∀ d ∈ ([.str "safe", .str "fits", .str "c_2"] : List D), IsNm d := by
  simp only [List.forall_mem_cons]
  refine ⟨⟨[115, 97, 102, 101], by kernel_rfl, gname (by decide +kernel) (by decide +kernel) (by decide)⟩, ⟨[102, 105, 116, 115], by kernel_rfl, gname (by decide +kernel) (by decide +kernel) (by decide)⟩, ⟨[99, 95, 50], by kernel_rfl, gname (by decide +kernel) (by decide +kernel) (by decide)⟩, by simp⟩
/-- the first field -/
def fst' (d : D) : D := match d with
  | .tup (x :: _) => x
  | _ => .non
theorem row_fst {d : D} (h : IsRow d) : gIdx d (.int 0) = some (.val (fst' d)) ∧ IsNm (fst' d) := by
  obtain ⟨nm, lo, hi, h1, h2, h3, rfl⟩ := h
  exact ⟨by rw [gIdx_tup, atI_0]; rfl, h1⟩
theorem node_fst {d : D} (h : IsNode d) : gIdx d (.int 0) = some (.val (fst' d)) ∧ IsNm (fst' d) := by
  obtain ⟨nm, e, h1, h2, rfl⟩ := h
  exact ⟨by rw [gIdx_tup, atI_0]; rfl, h1⟩
/-- the nodes of a net -/
abbrev nodeB : Sg := (sSeq (sSet 7 (sOp2 gAdd (sVar 7) (sTup (sCons (sTup (sCons (sVar 3) (sCons (sCall 17 (sKCons 2 (sVar 0) (sKCons 0 (sVar 2) (sKCons 2 (sVar 8) (sKCons 0 (sC (.int 2)) sKNil))))) sNil))) sNil))))
  (sSet 2 (sOp2 gAdd (sVar 2) (sLst (sCons (sVar 3) sNil)))))
theorem nodes_ok (hfu : 100000000 ≤ fu) {m : Nat} (hm : 11 ≤ m) (most inp s9 s10 : Slot) : ∀ (ds nms nodes : List D) (n : Nat) (p : D) (r : Int) (s3 : Slot), free s3 = true → (∀ d ∈ ds, IsNm d) → ds.length ≤ 4 → (∀ d ∈ nms, IsNm d) → nms ≠ [] → nms.length + ds.length ≤ 50 → (∀ d ∈ nodes, IsNode d) → nodes.length + ds.length ≤ 50 → IsPen n p → n + ds.length * 1000 < 800000000 →
    ∃ nms' nodes' p' r' s3', forL (CC fu m) (tgN 3) nodeB ds [.bor p, most, .own (.lst nms), s3, .non, .non, inp, .val (.tup nodes), .own (rm r), s9, s10] = .nx [.bor p', most, .own (.lst nms'), s3', .non, .non, inp, .val (.tup nodes'), .own (rm r'), s9, s10] ∧ free s3' = true ∧ (∀ d ∈ nms', IsNm d) ∧ nms' ≠ [] ∧ nms'.length ≤ 50 ∧ (∀ d ∈ nodes', IsNode d) ∧ nodes'.length = nodes.length + ds.length ∧ IsPen (n + ds.length * 1000) p'
  | [], nms, nodes, n, p, r, s3, f3, _, _, h1, h2, h3, h4, h5, hp, _ => ⟨nms, nodes, p, r, s3, rfl, f3, h1, h2, by simpa using h3, h4, rfl, by simpa using hp⟩
  | d :: ds, nms, nodes, n, p, r, s3, f3, hd, hl, h1, h2, h3, h4, h5, hp, hn => by
    rw [List.length_cons] at hl h3 h5 hn
    have hc2 : cb 2 = 860 := rfl
    obtain ⟨e, p1, r1, e1, he, hp1⟩ := bending17 hfu (ns := nms) ⟨h2, by omega, h1⟩ 2 m n p r (by omega) hp (by omega)
    have e1' : run fu m 17 [.bor p, .val (.lst nms), .bor (rm r), .val (.int 2)] = .ok (.val e) [.bor p1, .non, .bor (rm r1), .non] := e1
    obtain ⟨nms', nodes', p', r', s3', q1, q2, q3, q4, q5, q6, q7, q8⟩ := nodes_ok hfu hm most inp s9 s10 ds (nms ++ [d]) (nodes ++ [.tup [d, e]]) (n + 1000) p1 r1 (.val d) rfl (fun x hx => hd x (List.mem_cons_of_mem _ hx)) (by omega) (fun x hx => by
      rcases List.mem_append.mp hx with z | z
      · exact h1 x z
      · rw [List.mem_singleton.mp z]; exact hd d List.mem_cons_self) (by simp) (by rw [List.length_append, List.length_singleton]; omega) (fun x hx => by
      rcases List.mem_append.mp hx with z | z
      · exact h4 x z
      · rw [List.mem_singleton.mp z]; exact ⟨d, e, hd d List.mem_cons_self, he.le (by omega), rfl⟩) (by rw [List.length_append, List.length_singleton]; omega) (hp1.le (by omega)) (by omega)
    refine ⟨nms', nodes', p', r', s3', ?_, q2, q3, q4, q5, q6, by rw [q7, List.length_append, List.length_singleton, List.length_cons]; omega, q8.le (by rw [List.length_cons]; omega)⟩
    rw [← q1]
    have z1 : nms.length + 1 ≤ 16777216 := by omega
    have z2 : nodes.length + 1 ≤ 16777216 := by omega
    conv => lhs; unfold forL
    simp [f3, e1', gAdd, z1, z2]
end
end K44

/-! K44r -/
namespace K44
open PySem PySem.Spec PyProof.Rows L2 Kn

section
variable {fu : Nat}
theorem rm_fold (r : Int) : (D.lst [.int r]) = rm r := rfl
/-- the claims of a net -/
abbrev claimB : Sg := (sDrop (sApp 5 (sTup (sCons (sVar 3) (sCons (sCall 19 (sKCons 2 (sVar 0) (sKCons 0 (sVar 2) (sKCons 2 (sLst (sCons (sBi gMax (sRCons (sC (.int 0)) (sRCons (sOp2 gIdx (sVar 8) (sC (.int 0))) sRNil))) sNil)) (sKCons 0 (sCall 8 (sKCons 2 (sVar 0) (sKCons 0 (sLst (sCons (sC (.int 0)) (sCons (sC (.int 1)) (sCons (sC (.int 1)) (sCons (sC (.int 2)) sNil))))) sKNil))) sKNil))))) sNil)))))
theorem claims_ok (hfu : 100000000 ≤ fu) {m : Nat} (hm : 15 ≤ m) {nms : List D} (hs : Nms nms) (most s4 inp s7 s9 s10 : Slot) (r : Int) : ∀ (ds cls : List D) (n : Nat) (p : D) (s2 s3 : Slot), (s2 = .own (.lst nms) ∨ s2 = .val (.lst nms)) → free s3 = true → (∀ d ∈ ds, IsNm d) → ds.length ≤ 4 → (∀ d ∈ cls, IsClm d) → cls.length + ds.length ≤ 50 → IsPen n p → n + ds.length * 3000 < 800000000 →
    ∃ cls' p' s2' s3', forL (CC fu m) (tgN 3) claimB ds [.bor p, most, s2, s3, s4, .own (.lst cls), inp, s7, .own (rm r), s9, s10] = .nx [.bor p', most, s2', s3', s4, .own (.lst cls'), inp, s7, .own (rm r), s9, s10] ∧ (∀ d ∈ cls', IsClm d) ∧ cls'.length = cls.length + ds.length ∧ IsPen (n + ds.length * 3000) p'
  | [], cls, n, p, s2, s3, _, _, _, _, h1, _, hp, _ => ⟨cls, p, s2, s3, rfl, h1, rfl, by simpa using hp⟩
  | d :: ds, cls, n, p, s2, s3, h2, f3, hd, hl, h1, h3, hp, hn => by
    rw [List.length_cons] at hl h3 hn
    obtain ⟨kd, p1, e1, hk1, hp1⟩ := pk8 (fu := fu) (m := m) (by omega) n p [.int 0, .int 1, .int 1, .int 2] hp (by omega) (by simp) (by simp)
    obtain ⟨k, rfl, hk⟩ : ∃ k : Nat, kd = .int (k : Int) ∧ k ≤ 2 := by
      simp only [List.mem_cons, List.not_mem_nil, or_false] at hk1
      rcases hk1 with q | q | q | q
      · exact ⟨0, q, by omega⟩
      · exact ⟨1, q, by omega⟩
      · exact ⟨1, q, by omega⟩
      · exact ⟨2, q, by omega⟩
    have hcc : cc k ≤ 2800 := by
      match k, hk with
      | 0, _ => decide
      | 1, _ => decide
      | 2, _ => decide
    obtain ⟨e, p2, r2, e2, he, hp2⟩ := claim19 hfu hs k m _ p1 (if r > 0 then r else 0) (by omega) hp1 (by omega)
    obtain ⟨cls', p', s2', s3', q1, q2, q3, q4⟩ := claims_ok hfu hm hs most s4 inp s7 s9 s10 r ds (cls ++ [.tup [d, e]]) (n + 3000) p2 (.val (.lst nms)) (.val d) (.inr rfl) rfl (fun x hx => hd x (List.mem_cons_of_mem _ hx)) (by omega) (fun x hx => by
      rcases List.mem_append.mp hx with z | z
      · exact h1 x z
      · rw [List.mem_singleton.mp z]; exact ⟨d, e, hd d List.mem_cons_self, he.le (by omega), rfl⟩) (by rw [List.length_append, List.length_singleton]; omega) (hp2.le (by omega)) (by omega)
    refine ⟨cls', p', s2', s3', ?_, q2, by rw [q3, List.length_append, List.length_singleton, List.length_cons]; omega, q4.le (by rw [List.length_cons]; omega)⟩
    rw [← q1]
    have z1 : cls.length < 16777216 := by omega
    have eg : gMax [.int 0, .int r] = some (.val (.int (if r > 0 then r else 0))) := rfl
    conv => lhs; unfold forL
    rcases h2 with h2 | h2 <;> subst h2 <;> simp [f3, e1, eg, rm_fold, e2, z1]
end
end K44

/-! K44s -/
namespace K44
open PySem PySem.Spec PyProof.Rows L2 Kn

section
variable {fu : Nat}
theorem gSl_last (ds : List D) : gSl (.tup ds) (some (-2)) none = some (.val (.tup (ds.drop (ds.length - 2)))) := by
  show some (R.val (.tup (Kn.cutD ds (some (-2)) none))) = _
  unfold Kn.cutD
  have e : HT.sIx ds.length 0 (some (-2)) = ds.length - 2 := by
    unfold HT.sIx
    simp
    omega
  rw [e, HT.sIx_none, List.take_of_length_le (by rw [List.length_drop]; omega)]
theorem atI_last {ds : List D} (h : ds ≠ []) : ∃ d, atI ds (-1) = some d ∧ d ∈ ds := by
  obtain ⟨m, hm⟩ : ∃ m, ds.length = m + 1 := ⟨ds.length - 1, by have := List.length_pos_iff.mpr h; omega⟩
  refine ⟨ds[m]'(by omega), ?_, List.getElem_mem _⟩
  unfold atI ixN
  rw [if_neg (by decide), if_pos (by omega)]
  have : ((-1 : Int) + (ds.length : Int)).toNat = m := by omega
  simp only [Option.bind_some, this]
  exact List.getElem?_eq_getElem _
/-- the second half: outs, claims -/
def net2 : Sg := (sSeq (sSet 4 (sIte (sB (sOp2 gEq (sCall 7 (sKCons 2 (sVar 0) (sKCons 0 (sC (.int 2)) sKNil))) (sC (.int 0)))) (sBi gTuple (sRCons (sCall 9 (sKCons 2 (sVar 0) (sKCons 0 (sLc (iDat (sSl (sVar 7) (sPart (sOp1 gNeg (sC (.int 2)))) sNoP)) (tgN 10) sYes (sOp2 gIdx (sVar 10) (sC (.int 0))) [10]) sKNil))) sRNil)) (sTup (sCons (sOp2 gIdx (sOp2 gIdx (sVar 7) (sOp1 gNeg (sC (.int 1)))) (sC (.int 0))) sNil))))
  (sSeq (sSet 4 (sOp2 gAdd (sVar 4) (sIte (sB (sOp2 gEq (sCall 7 (sKCons 2 (sVar 0) (sKCons 0 (sC (.int 6)) sKNil))) (sC (.int 0)))) (sTup (sCons (sOp2 gIdx (sOp2 gIdx (sVar 6) (sC (.int 0))) (sC (.int 0))) sNil)) (sTup sNil))))
  (sSeq (sSet 5 (sLst sNil))
  (sSeq (sFor (iDat (sSl (sCall 9 (sKCons 2 (sVar 0) (sKCons 0 (sLst (sCons (sC (.str "safe")) (sCons (sC (.str "fits")) (sCons (sC (.str "c_2")) sNil)))) sKNil))) sNoP (sPart (sCall 8 (sKCons 2 (sVar 0) (sKCons 0 (sLst (sCons (sC (.int 1)) (sCons (sC (.int 2)) (sCons (sC (.int 1)) sNil)))) sKNil)))))) (tgN 3) claimB)
  (sRet (sTup (sCons (sVar 6) (sCons (sVar 7) (sCons (sVar 4) (sCons (sBi gTuple (sRCons (sVar 5) sRNil)) sNil))))))))))
theorem net2_ok (hfu : 100000000 ≤ fu) {m n : Nat} (hm : 15 ≤ m) {p : D} (hp : IsPen n p) (hn : n + 10000 < 700000000) {rows nodes nms : List D} (hr : ∀ x ∈ rows, IsRow x) (hr0 : rows ≠ []) (hr3 : rows.length ≤ 3) (hd : ∀ x ∈ nodes, IsNode x) (hd0 : nodes ≠ []) (hd4 : nodes.length ≤ 4) (hs : Nms nms) (k r : Int) (s3 : Slot) (f3 : free s3 = true) :
    ∃ d p', finO 2 (net2 (CC fu m) [.bor p, .val (.int k), .own (.lst nms), s3, .non, .non, .val (.tup rows), .val (.tup nodes), .own (rm r), .non, .non]) = .ok (.val d) [.bor p', .non] ∧ IsTree d ∧ IsPen (n + 10000) p' := by
  obtain ⟨z, p1, e1, z0, z1, hp1⟩ := dr (fu := fu) (m := m) (by omega) n p 2 hp (by omega) (by decide) (by decide)
  -- the outs
  have houts : ∃ outs p2, (∀ o ∈ outs, IsNm o) ∧ outs.length ≤ 2 ∧ IsPen (n + 3) p2 ∧ (sSet 4 (sIte (sB (sOp2 gEq (sCall 7 (sKCons 2 (sVar 0) (sKCons 0 (sC (.int 2)) sKNil))) (sC (.int 0)))) (sBi gTuple (sRCons (sCall 9 (sKCons 2 (sVar 0) (sKCons 0 (sLc (iDat (sSl (sVar 7) (sPart (sOp1 gNeg (sC (.int 2)))) sNoP)) (tgN 10) sYes (sOp2 gIdx (sVar 10) (sC (.int 0))) [10]) sKNil))) sRNil)) (sTup (sCons (sOp2 gIdx (sOp2 gIdx (sVar 7) (sOp1 gNeg (sC (.int 1)))) (sC (.int 0))) sNil)))) (CC fu m) [.bor p, .val (.int k), .own (.lst nms), s3, .non, .non, .val (.tup rows), .val (.tup nodes), .own (rm r), .non, .non] = .nx [.bor p2, .val (.int k), .own (.lst nms), s3, .val (.tup outs), .non, .val (.tup rows), .val (.tup nodes), .own (rm r), .non, .non] := by
    by_cases hz : z = 0
    · subst hz
      have hl2 : (nodes.drop (nodes.length - 2)).length ≤ 2 := by rw [List.length_drop]; omega
      have hm2 := map_ok (C := CC fu m) (t := tgN 10) (elt := sOp2 gIdx (sVar 10) (sC (.int 0))) (vs := [10]) fst' [.bor p1, .val (.int k), .own (.lst nms), s3, .non, .non, .val (.tup rows), .val (.tup nodes), .own (rm r), .non, .non] (nodes.drop (nodes.length - 2)) [] (fun d hdm => by
        have q := node_fst (hd d (List.mem_of_mem_drop hdm))
        exact ⟨[.bor p1, .val (.int k), .own (.lst nms), s3, .non, .non, .val (.tup rows), .val (.tup nodes), .own (rm r), .non, .val d], by simp, by simp [q.1], by simp [wipeE]⟩) (by simp; omega)
      obtain ⟨es, p2, e2, h1, h2, hp2⟩ := sh9 (fu := fu) (m := m) (by omega) _ p1 ((nodes.drop (nodes.length - 2)).map fst') hp1 (by omega) (by rw [List.length_map]; omega)
      refine ⟨es, p2, fun o ho => ?_, by rw [h2, List.length_map]; exact hl2, hp2.le (by rw [List.length_map]; omega), ?_⟩
      · have := h1 o ho
        rw [List.mem_map] at this
        obtain ⟨d, hdm, rfl⟩ := this
        exact (node_fst (hd d (List.mem_of_mem_drop hdm))).2
      · simp at hm2
        rw [List.map_drop] at e2
        simp [e1, gSl_last, sLc, plainAt, wipeE, hm2, restoreE, e2]
    · have hz' : (z == 0) = false := by simpa using hz
      obtain ⟨d, e2, hdm⟩ := atI_last hd0
      have q := node_fst (hd d hdm)
      refine ⟨[fst' d], p1, fun o ho => by rw [List.mem_singleton.mp ho]; exact q.2, by simp, hp1.le (by omega), ?_⟩
      simp [e1, hz', e2, q.1]
  obtain ⟨outs, p2, ho, hol, hp2, eo⟩ := houts
  obtain ⟨y, p3, e3, _, _, hp3⟩ := dr (fu := fu) (m := m) (by omega) _ p2 6 hp2 (by omega) (by decide) (by decide)
  obtain ⟨es, p4, e4, h4, h4l, hp4⟩ := sh9 (fu := fu) (m := m) (by omega) _ p3 [.str "safe", .str "fits", .str "c_2"] hp3 (by omega) (by simp)
  obtain ⟨kd, p5, e5, hk5, hp5⟩ := pk8 (fu := fu) (m := m) (by omega) _ p4 [.int 1, .int 2, .int 1] hp4 (by simp; omega) (by simp) (by simp)
  obtain ⟨j, rfl, hj⟩ : ∃ j : Nat, kd = .int (j : Int) ∧ j ≤ 2 := by
    simp only [List.mem_cons, List.not_mem_nil, or_false] at hk5
    rcases hk5 with q | q | q
    · exact ⟨1, q, by omega⟩
    · exact ⟨2, q, by omega⟩
    · exact ⟨1, q, by omega⟩
  have hl : (es.take j).length ≤ 2 := by rw [List.length_take]; omega
  have hp5' : IsPen (n + 10) p5 := hp5.le (by simp)
  obtain ⟨row0, rest, hrw⟩ : ∃ a b, rows = a :: b := by
    cases rows with
    | nil => exact (hr0 rfl).elim
    | cons a b => exact ⟨a, b, rfl⟩
  have q0 := row_fst (hr row0 (by rw [hrw]; exact List.mem_cons_self))
  have er0 : atI rows 0 = some row0 := by rw [hrw]; exact atI_0 _ _
  have z2 : outs.length + 1 ≤ 16777216 := by omega
  have z3 : outs.length ≤ 16777216 := by omega
  have fin : ∀ outs' : List D, (∀ o ∈ outs', IsNm o) → outs'.length ≤ 3 → ∃ d p', finO 2 ((forL (CC fu m) (tgN 3) claimB (es.take j) [.bor p5, .val (.int k), .own (.lst nms), s3, .val (.tup outs'), .own (.lst []), .val (.tup rows), .val (.tup nodes), .own (rm r), .non, .non]).bind fun S1 => (sRet (sTup (sCons (sVar 6) (sCons (sVar 7) (sCons (sVar 4) (sCons (sBi gTuple (sRCons (sVar 5) sRNil)) sNil)))))) (CC fu m) S1) = .ok (.val d) [.bor p', .non] ∧ IsTree d ∧ IsPen (n + 10000) p' := by
    intro outs' ho' hl'
    obtain ⟨cls, p', s2', s3', q1, q2, q3, q4⟩ := claims_ok hfu (m := m) hm hs (.val (.int k)) (.val (.tup outs')) (.val (.tup rows)) (.val (.tup nodes)) .non .non r (es.take j) [] _ p5 (.own (.lst nms)) s3 (.inl rfl) f3 (fun d hdm => claimNames d (h4 d (List.mem_of_mem_take hdm))) (by omega) (by simp) (by simp only [List.length_nil]; omega) hp5' (by omega)
    refine ⟨.tup [.tup rows, .tup nodes, .tup outs', .tup cls], p', ?_, ⟨rows, nodes, outs', cls, rfl, hr, hr3, hd, hd4, ho', hl', q2, by rw [q3]; simp only [List.length_nil]; omega⟩, q4.le (by omega)⟩
    rw [q1]
    simp
  unfold net2
  rw [x_sSeq, eo]
  by_cases hy : y = 0
  · subst hy
    obtain ⟨d, p', q1, q2, q3⟩ := fin (outs ++ [fst' row0]) (fun o hm => by
      rcases List.mem_append.mp hm with w | w
      · exact ho o w
      · rw [List.mem_singleton.mp w]; exact q0.2) (by rw [List.length_append, List.length_singleton]; omega)
    refine ⟨d, p', ?_, q2, q3⟩
    rw [← q1]
    simp [e3, er0, q0.1, gAdd, z2, e4, e5, gSl_lst]
  · have hy' : (y == 0) = false := by simpa using hy
    obtain ⟨d, p', q1, q2, q3⟩ := fin outs ho (by omega)
    refine ⟨d, p', ?_, q2, q3⟩
    rw [← q1]
    simp [e3, hy', gAdd, z3, e4, e5, gSl_lst]
theorem net_eq : F__law_net_tree = (sSeq (sPar [6, 7, 8] (sKCons 1 (sCall 18 (sKCons 2 (sVar 0) sKNil)) (sKCons 1 (sTup sNil) (sKCons 1 (sLst (sCons (sBi gMax (sRCons (sC (.int 1)) (sRCons (sOp2 gSub (sVar 1) (sC (.int 1))) sRNil))) sNil)) sKNil))))
  (sSeq (sSet 2 (sLc (iDat (sVar 6)) (tgN 9) sYes (sOp2 gIdx (sVar 9) (sC (.int 0))) [9]))
  (sSeq (sFor (iDat (sSl (sCall 9 (sKCons 2 (sVar 0) (sKCons 0 (sLst (sCons (sC (.str "h")) (sCons (sC (.str "sum")) (sCons (sC (.str "k_1")) (sCons (sC (.str "cost")) (sCons (sC (.str "last")) sNil)))))) sKNil))) sNoP (sPart (sCall 8 (sKCons 2 (sVar 0) (sKCons 0 (sLst (sCons (sC (.int 1)) (sCons (sC (.int 2)) (sCons (sC (.int 3)) (sCons (sC (.int 4)) (sCons (sC (.int 2)) sNil)))))) sKNil)))))) (tgN 3) nodeB) net2))) := rfl
theorem net20 (hfu : 100000000 ≤ fu) {m n : Nat} (hm : 16 ≤ m) {p : D} (hp : IsPen n p) (hn : n + 20000 < 700000000) (k : Int) : ∃ d p', run fu m 20 [.bor p, .val (.int k)] = .ok (.val d) [.bor p', .non] ∧ IsTree d ∧ IsPen (n + 20000) p' := by
  obtain ⟨rows, p1, e1, h1, h1n, h1l, hp1⟩ := inputs18 (fu := fu) hfu (m := m - 1) (by omega) hp (by omega)
  obtain ⟨es, p2, e2, h2, h2l, hp2⟩ := sh9 (fu := fu) (m := m - 1) (by omega) _ p1 [.str "h", .str "sum", .str "k_1", .str "cost", .str "last"] hp1 (by omega) (by simp)
  obtain ⟨kd, p3, e3, hk3, hp3⟩ := pk8 (fu := fu) (m := m - 1) (by omega) _ p2 [.int 1, .int 2, .int 3, .int 4, .int 2] hp2 (by simp; omega) (by simp) (by simp)
  obtain ⟨j, rfl, hj⟩ : ∃ j : Nat, kd = .int (j : Int) ∧ 1 ≤ j ∧ j ≤ 4 := by
    simp only [List.mem_cons, List.not_mem_nil, or_false] at hk3
    rcases hk3 with q | q | q | q | q
    · exact ⟨1, q, by omega⟩
    · exact ⟨2, q, by omega⟩
    · exact ⟨3, q, by omega⟩
    · exact ⟨4, q, by omega⟩
    · exact ⟨2, q, by omega⟩
  simp at h2l
  have hl : (es.take j).length ≤ 4 ∧ 1 ≤ (es.take j).length := by rw [List.length_take]; omega
  have hp3' : IsPen (n + 30) p3 := hp3.le (by simp)
  generalize hr : (if k - 1 > 1 then k - 1 else 1) = r0
  have hm2 := map_ok (C := CC fu (m - 1)) (t := tgN 9) (elt := sOp2 gIdx (sVar 9) (sC (.int 0))) (vs := [9]) fst' [.bor p1, .val (.int k), .non, .non, .non, .non, .val (.tup rows), .val (.tup []), .own (rm r0), .non, .non] rows [] (fun d hdm => by
    have q := row_fst (h1 d hdm)
    exact ⟨[.bor p1, .val (.int k), .non, .non, .non, .non, .val (.tup rows), .val (.tup []), .own (rm r0), .val d, .non], by simp, by simp [q.1], by simp [wipeE]⟩) (by simp; omega)
  obtain ⟨nms', nodes', p4, r4, s3', q1, q2, q3, q4, q5, q6, q7, q8⟩ := nodes_ok (fu := fu) hfu (m := m - 1) (by omega) (.val (.int k)) (.val (.tup rows)) .non .non (es.take j) (rows.map fst') [] _ p3 r0 .non rfl (fun d hdm => nodeNames d (h2 d (List.mem_of_mem_take hdm))) hl.1 (fun d hdm => by
    rw [List.mem_map] at hdm
    obtain ⟨x, hx, rfl⟩ := hdm
    exact (row_fst (h1 x hx)).2) (by simpa using h1n) (by rw [List.length_map]; omega) (by simp) (by simp only [List.length_nil]; omega) hp3' (by omega)
  obtain ⟨d, p5, e5, h5, hp5⟩ := net2_ok (fu := fu) hfu (m := m - 1) (by omega) q8 (by omega) h1 h1n h1l q6 (fun z => by rw [z] at q7; simp only [List.length_nil] at q7; omega) (by rw [q7]; simp only [List.length_nil]; omega) ⟨q4, by omega, q3⟩ k r4 s3' q2
  refine ⟨d, p5, ?_, h5, hp5.le (by omega)⟩
  rw [run_m (F := ⟨2, 11, F__law_net_tree⟩) rfl (by omega), bodyRun_eq, net_eq, ← e5]
  have eg : gMax [.int 1, .int (k - 1)] = some (.val (.int r0)) := by rw [← hr]; rfl
  simp at hm2
  simp [e1, eg, rm_fold, sLc, plainAt, wipeE, hm2, restoreE, e2, e3, gSl_lst, q1]
theorem tree21 (hfu : 100000000 ≤ fu) {m n : Nat} (hm : 17 ≤ m) {p : D} (hp : IsPen n p) (hn : n + 20001 < 700000000) : ∃ d p', run fu m 21 [.bor p] = .ok (.val d) [.bor p'] ∧ IsTree d ∧ IsPen (n + 20001) p' := by
  obtain ⟨kd, p1, e1, hk1, hp1⟩ := pk8 (fu := fu) (m := m - 1) (by omega) _ p [.int 4, .int 3, .int 5, .int 2] hp (by omega) (by simp) (by simp)
  obtain ⟨k, rfl⟩ : ∃ k : Int, kd = .int k := by
    simp only [List.mem_cons, List.not_mem_nil, or_false] at hk1
    rcases hk1 with q | q | q | q <;> exact ⟨_, q⟩
  obtain ⟨d, p2, e2, hd, hp2⟩ := net20 (fu := fu) hfu (m := m - 1) (by omega) hp1 (by omega) k
  refine ⟨d, p2, ?_, hd, hp2.le (by omega)⟩
  rw [run_m (F := ⟨1, 1, F__law_tree⟩) rfl (by omega), bodyRun_eq]
  simp [F__law_tree, e1, e2]
end
end K44

/-! K44n -/
namespace K44
open PySem PySem.Spec PyProof.Rows L2 Kn

/-! ### words of trees -/
def GoodNum (w : List Nat) : Prop := w ≠ [] ∧ (∀ x ∈ w, x ∈ digitsL) ∧ badNum w = false
def GoodWd (w : List Nat) : Prop := GoodName w ∨ GoodNum w ∨ isTwo (mk w) = true ∨ ∃ c ∈ onesL, w = [c]
def IsWd (d : D) : Prop := ∃ w, d = .str (mk w) ∧ GoodWd w
def numW (k : Nat) : List Nat := (Str.ofString (toString (k : Int))).cps.toList
theorem num_all : ∀ k : Fin 25, (decide (numW k.val ≠ []) && (numW k.val).all (fun x => decide (x ∈ digitsL)) && !badNum (numW k.val) && decide (numW k.val ≠ [])) = true := by decide +kernel
theorem num_ok {k : Nat} (h : k ≤ 24) : gStr [.int (k : Int)] = some (.val (.str (mk (numW k)))) ∧ GoodNum (numW k) := by
  refine ⟨?_, ?_⟩
  · have : ((k : Int)).natAbs.log2 < 1920 := by
      have : ((k : Int)).natAbs.log2 < 64 := by
        by_cases hk : k = 0
        · subst hk; decide
        · rw [Nat.log2_lt (by omega)]
          omega
      omega
    show (if ((k : Int)).natAbs.log2 < 1920 then some (R.val (.str (Str.ofString (toString (k : Int))))) else none) = _
    rw [if_pos this]
    unfold numW
    rw [mk_self]
  · have := num_all ⟨k, by omega⟩
    simp only [Bool.and_eq_true, decide_eq_true_eq, List.all_eq_true, Bool.not_eq_true'] at this
    exact ⟨this.1.1.1, this.1.1.2, this.1.2⟩
theorem one_wd (s : String) (c : Nat) (h : D.str (Str.ofString s) = .str (mk [c])) (hc : c ∈ onesL) : IsWd (.str (Str.ofString s)) := ⟨[c], h, .inr (.inr (.inr ⟨c, hc, rfl⟩))⟩
theorem name_wd (s : String) (w : List Nat) (h : D.str (Str.ofString s) = .str (mk w)) (hw : GoodName w) : IsWd (.str (Str.ofString s)) := ⟨w, h, .inl hw⟩
theorem w_slash : IsWd (.str "/") := one_wd _ 47 (by kernel_rfl) (by decide +kernel)
theorem w_minus : IsWd (.str "-") := one_wd _ 45 (by kernel_rfl) (by decide +kernel)
theorem w_plus : IsWd (.str "+") := one_wd _ 43 (by kernel_rfl) (by decide +kernel)
theorem w_star : IsWd (.str "*") := one_wd _ 42 (by kernel_rfl) (by decide +kernel)
theorem w_open : IsWd (.str "(") := one_wd _ 40 (by kernel_rfl) (by decide +kernel)
theorem w_close : IsWd (.str ")") := one_wd _ 41 (by kernel_rfl) (by decide +kernel)
theorem w_comma : IsWd (.str ",") := one_wd _ 44 (by kernel_rfl) (by decide +kernel)
theorem w_lbr : IsWd (.str "[") := one_wd _ 91 (by kernel_rfl) (by decide +kernel)
theorem w_rbr : IsWd (.str "]") := one_wd _ 93 (by kernel_rfl) (by decide +kernel)
theorem w_lcu : IsWd (.str "{") := one_wd _ 123 (by kernel_rfl) (by decide +kernel)
theorem w_rcu : IsWd (.str "}") := one_wd _ 125 (by kernel_rfl) (by decide +kernel)
theorem w_semi : IsWd (.str ";") := one_wd _ 59 (by kernel_rfl) (by decide +kernel)
theorem w_colon : IsWd (.str ":") := one_wd _ 58 (by kernel_rfl) (by decide +kernel)
theorem w_eq : IsWd (.str "=") := one_wd _ 61 (by kernel_rfl) (by decide +kernel)
theorem w_lt : IsWd (.str "<") := one_wd _ 60 (by kernel_rfl) (by decide +kernel)
theorem w_gt : IsWd (.str ">") := one_wd _ 62 (by kernel_rfl) (by decide +kernel)
theorem w_le : IsWd (.str "<=") := ⟨[60, 61], by kernel_rfl, .inr (.inr (.inl (by kernel_rfl)))⟩
theorem w_ge : IsWd (.str ">=") := ⟨[62, 61], by kernel_rfl, .inr (.inr (.inl (by kernel_rfl)))⟩
theorem w_ne : IsWd (.str "!=") := ⟨[33, 61], by kernel_rfl, .inr (.inr (.inl (by kernel_rfl)))⟩
theorem w_knee : IsWd (.str "knee") := name_wd _ [107, 110, 101, 101] (by kernel_rfl) (gname (by decide +kernel) (by decide +kernel) (by decide))
theorem w_abs : IsWd (.str "abs") := name_wd _ [97, 98, 115] (by kernel_rfl) (gname (by decide +kernel) (by decide +kernel) (by decide))
theorem w_clip : IsWd (.str "clip") := name_wd _ [99, 108, 105, 112] (by kernel_rfl) (gname (by decide +kernel) (by decide +kernel) (by decide))
theorem w_max : IsWd (.str "max") := name_wd _ [109, 97, 120] (by kernel_rfl) (gname (by decide +kernel) (by decide +kernel) (by decide))
theorem w_min : IsWd (.str "min") := name_wd _ [109, 105, 110] (by kernel_rfl) (gname (by decide +kernel) (by decide +kernel) (by decide))
theorem w_not : IsWd (.str "not") := name_wd _ [110, 111, 116] (by kernel_rfl) (gname (by decide +kernel) (by decide +kernel) (by decide))
theorem w_and : IsWd (.str "and") := name_wd _ [97, 110, 100] (by kernel_rfl) (gname (by decide +kernel) (by decide +kernel) (by decide))
theorem w_or : IsWd (.str "or") := name_wd _ [111, 114] (by kernel_rfl) (gname (by decide +kernel) (by decide +kernel) (by decide))
theorem w_net : IsWd (.str "net") := name_wd _ [110, 101, 116] (by kernel_rfl) (gname (by decide +kernel) (by decide +kernel) (by decide))
theorem w_in : IsWd (.str "in") := name_wd _ [105, 110] (by kernel_rfl) (gname (by decide +kernel) (by decide +kernel) (by decide))
theorem w_from : IsWd (.str "from") := name_wd _ [102, 114, 111, 109] (by kernel_rfl) (gname (by decide +kernel) (by decide +kernel) (by decide))
theorem w_to : IsWd (.str "to") := name_wd _ [116, 111] (by kernel_rfl) (gname (by decide +kernel) (by decide +kernel) (by decide))
theorem w_out : IsWd (.str "out") := name_wd _ [111, 117, 116] (by kernel_rfl) (gname (by decide +kernel) (by decide +kernel) (by decide))
theorem w_claim : IsWd (.str "claim") := name_wd _ [99, 108, 97, 105, 109] (by kernel_rfl) (gname (by decide +kernel) (by decide +kernel) (by decide))
theorem nm_wd {d : D} (h : IsNm d) : IsWd d := by
  obtain ⟨w, rfl, hw⟩ := h
  exact ⟨w, rfl, .inl hw⟩
/-- words, at most n -/
def Wds (n : Nat) (ws : List D) : Prop := (∀ d ∈ ws, IsWd d) ∧ ws.length ≤ n
section
variable {fu : Nat}
theorem ratio22 {m : Nat} (hm : 1 ≤ m) {r : D} (h : IsRat 24 r) : ∃ ws, run fu m 22 [.val r] = .ok (.fr (.lst ws)) [.non] ∧ Wds 4 ws := by
  obtain ⟨t, b, rfl, h1, h2, h3⟩ := h
  obtain ⟨e1, g1⟩ := num_ok (k := t.natAbs) h1
  obtain ⟨e2, g2⟩ := num_ok (k := b.natAbs) (by omega)
  have eb : ((b.natAbs : Nat) : Int) = b := by omega
  rw [eb] at e2
  have ea : gAbs [.int t] = some (.val (.int (t.natAbs : Int))) := by rw [gAbs_int, absI]
  have n1 : IsWd (.str (mk (numW t.natAbs))) := ⟨_, rfl, .inr (.inl g1)⟩
  have n2 : IsWd (.str (mk (numW b.natAbs))) := ⟨_, rfl, .inr (.inl g2)⟩
  rw [run_m (F := ⟨1, 2, F__law_ratio_words⟩) rfl hm, bodyRun_eq]
  generalize numW t.natAbs = w1 at *
  generalize numW b.natAbs = w2 at *
  by_cases hb : b = 1
  · subst hb
    by_cases ht : t < 0
    · exact ⟨[.str "-", .str (mk w1)], by simp [F__law_ratio_words, atI_0, atI_1, ea, e1, gAdd, ht], by intro d hd; simp at hd; rcases hd with q | q <;> subst q; exact w_minus; exact n1, by simp⟩
    · exact ⟨[.str (mk w1)], by simp [F__law_ratio_words, atI_0, atI_1, ea, e1, gAdd, ht], by intro d hd; simp at hd; subst hd; exact n1, by simp⟩
  · have hb' : (b == 1) = false := by simpa using hb
    by_cases ht : t < 0
    · exact ⟨[.str "-", .str (mk w1), .str "/", .str (mk w2)], by simp [F__law_ratio_words, atI_0, atI_1, ea, e1, e2, hb', gAdd, ht], by intro d hd; simp at hd; rcases hd with q | q | q | q <;> subst q; exact w_minus; exact n1; exact w_slash; exact n2, by simp⟩
    · exact ⟨[.str (mk w1), .str "/", .str (mk w2)], by simp [F__law_ratio_words, atI_0, atI_1, ea, e1, e2, hb', gAdd, ht], by intro d hd; simp at hd; rcases hd with q | q | q <;> subst q; exact n1; exact w_slash; exact n2, by simp⟩
end
end K44

/-! K44m -/
namespace K44
open PySem PySem.Spec PyProof.Rows L2 Kn

/-- a pen, or None -/
def PA (n : Nat) (s : Slot) : Prop := s = .val .non ∨ ∃ p, s = .bor p ∧ IsPen n p
theorem PA.le {n m : Nat} {s : Slot} (h : PA n s) (hl : n ≤ m) : PA m s := by
  rcases h with h | ⟨p, h, hp⟩
  · exact .inl h
  · exact .inr ⟨p, h, hp.le hl⟩
theorem PA.refl {n : Nat} {s : Slot} (h : PA n s) : Sm2 s s := by
  rcases h with h | ⟨p, h, hp⟩
  · subst h; exact .non
  · subst h; exact .bor p p
/-- a list that is given: new, or kept -/
def ListR (r : R) (ws : List D) : Prop := r = .val (.lst ws) ∨ r = .fr (.lst ws)
theorem ListR.vf {r : R} {ws : List D} (h : ListR r ws) : (∃ d, r = .val d) ∨ ∃ d, r = .fr d := by
  rcases h with h | h
  · exact .inl ⟨_, h⟩
  · exact .inr ⟨_, h⟩
theorem pen_isN {n : Nat} {p : D} (h : IsPen n p) : gNotN p .non = some (.val (.bl true)) := by
  obtain ⟨cs, a, g, c, f, rfl, _⟩ := h
  rfl
section
variable {fu : Nat}
theorem brack23 {m n : Nat} (hm : 2 ≤ m) {ps : Slot} (hp : PA n ps) (hn : n < 800000000) {ws : List D} {op cl : D} (need : Bool) (h1 : IsWd op) (h2 : IsWd cl) {k : Nat} (hw : Wds k ws) (hk : k < 1000000) :
    ∃ r ws' ps', run fu m 23 [ps, .val (.lst ws), .val op, .val cl, .val (.bl need)] = .ok r (keepBor ps' :: [.non, .non, .non, .non]) ∧ ListR r ws' ∧ Wds (k + 2) ws' ∧ Sm2 ps ps' ∧ PA (n + 1) ps' := by
  have z1 : ws.length + 1 ≤ 16777216 := by have := hw.2; omega
  have z2 : ws.length + 1 + 1 ≤ 16777216 := by have := hw.2; omega
  have big : Wds (k + 2) (op :: (ws ++ [cl])) := ⟨fun d hd => by
    rcases List.mem_cons.mp hd with q | q
    · subst q; exact h1
    · rcases List.mem_append.mp q with q | q
      · exact hw.1 d q
      · rw [List.mem_singleton.mp q]; exact h2, by have := hw.2; simp; omega⟩
  have same : Wds (k + 2) ws := ⟨hw.1, by have := hw.2; omega⟩
  have e0 : (1 + ws.length ≤ 16777216) := by omega
  have e00 : (1 + ws.length + 1 ≤ 16777216) := by omega
  cases need with
  | true =>
    refine ⟨.fr (.lst (op :: (ws ++ [cl]))), _, ps, ?_, .inr rfl, big, hp.refl, hp.le (by omega)⟩
    rw [run_m (F := ⟨5, 5, F__law_bracketed⟩) rfl (by omega), bodyRun_eq]
    rcases hp with q | ⟨p, q, hp⟩ <;> subst q <;> simp [F__law_bracketed, gAdd, z1, z2, e0, e00]
  | false =>
    rcases hp with q | ⟨p, q, hp⟩
    · subst q
      refine ⟨.val (.lst ws), _, .val .non, ?_, .inl rfl, same, .non, .inl rfl⟩
      rw [run_m (F := ⟨5, 5, F__law_bracketed⟩) rfl (by omega), bodyRun_eq]
      have : gNotN .non .non = some (.val (.bl false)) := rfl
      simp [F__law_bracketed, this]
    · subst q
      obtain ⟨z, p1, e1, _, _, hp1⟩ := dr (fu := fu) (m := m - 1) (by omega) n p 8 hp (by omega) (by decide) (by decide)
      have hN := pen_isN hp
      by_cases hz : z = 0
      · subst hz
        refine ⟨.fr (.lst (op :: (ws ++ [cl]))), _, .bor p1, ?_, .inr rfl, big, .bor _ _, .inr ⟨p1, rfl, hp1⟩⟩
        rw [run_m (F := ⟨5, 5, F__law_bracketed⟩) rfl (by omega), bodyRun_eq]
        simp [F__law_bracketed, hN, e1, gAdd, z1, z2, e0, e00]
      · have hz' : (z == 0) = false := by simpa using hz
        refine ⟨.val (.lst ws), _, .bor p1, ?_, .inl rfl, same, .bor _ _, .inr ⟨p1, rfl, hp1⟩⟩
        rw [run_m (F := ⟨5, 5, F__law_bracketed⟩) rfl (by omega), bodyRun_eq]
        simp [F__law_bracketed, hN, e1, hz']
end
end K44

/-! K44f -/
namespace K44
open PySem PySem.Spec PyProof.Rows L2 Kn
@[simp] theorem q_num_neg : gEq (.str "num") (.str "neg") = some (.val (.bl false)) := by kernel_rfl
@[simp] theorem q_num_times : gEq (.str "num") (.str "times") = some (.val (.bl false)) := by kernel_rfl
@[simp] theorem q_num_num : gEq (.str "num") (.str "num") = some (.val (.bl true)) := by kernel_rfl
@[simp] theorem q_num_var : gEq (.str "num") (.str "var") = some (.val (.bl false)) := by kernel_rfl
@[simp] theorem q_num_add : gEq (.str "num") (.str "add") = some (.val (.bl false)) := by kernel_rfl
@[simp] theorem q_num_clip : gEq (.str "num") (.str "clip") = some (.val (.bl false)) := by kernel_rfl
@[simp] theorem i_num_add_sub : gIn (.str "num") (.tup [.str "add", .str "sub"]) = some (.val (.bl false)) := by kernel_rfl
@[simp] theorem i_num_neg_times : gIn (.str "num") (.tup [.str "neg", .str "times"]) = some (.val (.bl false)) := by kernel_rfl
@[simp] theorem i_num_knee_abs : gIn (.str "num") (.tup [.str "knee", .str "abs"]) = some (.val (.bl false)) := by kernel_rfl
@[simp] theorem q_var_neg : gEq (.str "var") (.str "neg") = some (.val (.bl false)) := by kernel_rfl
@[simp] theorem q_var_times : gEq (.str "var") (.str "times") = some (.val (.bl false)) := by kernel_rfl
@[simp] theorem q_var_num : gEq (.str "var") (.str "num") = some (.val (.bl false)) := by kernel_rfl
@[simp] theorem q_var_var : gEq (.str "var") (.str "var") = some (.val (.bl true)) := by kernel_rfl
@[simp] theorem q_var_add : gEq (.str "var") (.str "add") = some (.val (.bl false)) := by kernel_rfl
@[simp] theorem q_var_clip : gEq (.str "var") (.str "clip") = some (.val (.bl false)) := by kernel_rfl
@[simp] theorem i_var_add_sub : gIn (.str "var") (.tup [.str "add", .str "sub"]) = some (.val (.bl false)) := by kernel_rfl
@[simp] theorem i_var_neg_times : gIn (.str "var") (.tup [.str "neg", .str "times"]) = some (.val (.bl false)) := by kernel_rfl
@[simp] theorem i_var_knee_abs : gIn (.str "var") (.tup [.str "knee", .str "abs"]) = some (.val (.bl false)) := by kernel_rfl
@[simp] theorem q_add_neg : gEq (.str "add") (.str "neg") = some (.val (.bl false)) := by kernel_rfl
@[simp] theorem q_add_times : gEq (.str "add") (.str "times") = some (.val (.bl false)) := by kernel_rfl
@[simp] theorem q_add_num : gEq (.str "add") (.str "num") = some (.val (.bl false)) := by kernel_rfl
@[simp] theorem q_add_var : gEq (.str "add") (.str "var") = some (.val (.bl false)) := by kernel_rfl
@[simp] theorem q_add_add : gEq (.str "add") (.str "add") = some (.val (.bl true)) := by kernel_rfl
@[simp] theorem q_add_clip : gEq (.str "add") (.str "clip") = some (.val (.bl false)) := by kernel_rfl
@[simp] theorem i_add_add_sub : gIn (.str "add") (.tup [.str "add", .str "sub"]) = some (.val (.bl true)) := by kernel_rfl
@[simp] theorem i_add_neg_times : gIn (.str "add") (.tup [.str "neg", .str "times"]) = some (.val (.bl false)) := by kernel_rfl
@[simp] theorem i_add_knee_abs : gIn (.str "add") (.tup [.str "knee", .str "abs"]) = some (.val (.bl false)) := by kernel_rfl
@[simp] theorem q_sub_neg : gEq (.str "sub") (.str "neg") = some (.val (.bl false)) := by kernel_rfl
@[simp] theorem q_sub_times : gEq (.str "sub") (.str "times") = some (.val (.bl false)) := by kernel_rfl
@[simp] theorem q_sub_num : gEq (.str "sub") (.str "num") = some (.val (.bl false)) := by kernel_rfl
@[simp] theorem q_sub_var : gEq (.str "sub") (.str "var") = some (.val (.bl false)) := by kernel_rfl
@[simp] theorem q_sub_add : gEq (.str "sub") (.str "add") = some (.val (.bl false)) := by kernel_rfl
@[simp] theorem q_sub_clip : gEq (.str "sub") (.str "clip") = some (.val (.bl false)) := by kernel_rfl
@[simp] theorem i_sub_add_sub : gIn (.str "sub") (.tup [.str "add", .str "sub"]) = some (.val (.bl true)) := by kernel_rfl
@[simp] theorem i_sub_neg_times : gIn (.str "sub") (.tup [.str "neg", .str "times"]) = some (.val (.bl false)) := by kernel_rfl
@[simp] theorem i_sub_knee_abs : gIn (.str "sub") (.tup [.str "knee", .str "abs"]) = some (.val (.bl false)) := by kernel_rfl
@[simp] theorem q_neg_neg : gEq (.str "neg") (.str "neg") = some (.val (.bl true)) := by kernel_rfl
@[simp] theorem q_neg_times : gEq (.str "neg") (.str "times") = some (.val (.bl false)) := by kernel_rfl
@[simp] theorem q_neg_num : gEq (.str "neg") (.str "num") = some (.val (.bl false)) := by kernel_rfl
@[simp] theorem q_neg_var : gEq (.str "neg") (.str "var") = some (.val (.bl false)) := by kernel_rfl
@[simp] theorem q_neg_add : gEq (.str "neg") (.str "add") = some (.val (.bl false)) := by kernel_rfl
@[simp] theorem q_neg_clip : gEq (.str "neg") (.str "clip") = some (.val (.bl false)) := by kernel_rfl
@[simp] theorem i_neg_add_sub : gIn (.str "neg") (.tup [.str "add", .str "sub"]) = some (.val (.bl false)) := by kernel_rfl
@[simp] theorem i_neg_neg_times : gIn (.str "neg") (.tup [.str "neg", .str "times"]) = some (.val (.bl true)) := by kernel_rfl
@[simp] theorem i_neg_knee_abs : gIn (.str "neg") (.tup [.str "knee", .str "abs"]) = some (.val (.bl false)) := by kernel_rfl
@[simp] theorem q_times_neg : gEq (.str "times") (.str "neg") = some (.val (.bl false)) := by kernel_rfl
@[simp] theorem q_times_times : gEq (.str "times") (.str "times") = some (.val (.bl true)) := by kernel_rfl
@[simp] theorem q_times_num : gEq (.str "times") (.str "num") = some (.val (.bl false)) := by kernel_rfl
@[simp] theorem q_times_var : gEq (.str "times") (.str "var") = some (.val (.bl false)) := by kernel_rfl
@[simp] theorem q_times_add : gEq (.str "times") (.str "add") = some (.val (.bl false)) := by kernel_rfl
@[simp] theorem q_times_clip : gEq (.str "times") (.str "clip") = some (.val (.bl false)) := by kernel_rfl
@[simp] theorem i_times_add_sub : gIn (.str "times") (.tup [.str "add", .str "sub"]) = some (.val (.bl false)) := by kernel_rfl
@[simp] theorem i_times_neg_times : gIn (.str "times") (.tup [.str "neg", .str "times"]) = some (.val (.bl true)) := by kernel_rfl
@[simp] theorem i_times_knee_abs : gIn (.str "times") (.tup [.str "knee", .str "abs"]) = some (.val (.bl false)) := by kernel_rfl
@[simp] theorem q_knee_neg : gEq (.str "knee") (.str "neg") = some (.val (.bl false)) := by kernel_rfl
@[simp] theorem q_knee_times : gEq (.str "knee") (.str "times") = some (.val (.bl false)) := by kernel_rfl
@[simp] theorem q_knee_num : gEq (.str "knee") (.str "num") = some (.val (.bl false)) := by kernel_rfl
@[simp] theorem q_knee_var : gEq (.str "knee") (.str "var") = some (.val (.bl false)) := by kernel_rfl
@[simp] theorem q_knee_add : gEq (.str "knee") (.str "add") = some (.val (.bl false)) := by kernel_rfl
@[simp] theorem q_knee_clip : gEq (.str "knee") (.str "clip") = some (.val (.bl false)) := by kernel_rfl
@[simp] theorem i_knee_add_sub : gIn (.str "knee") (.tup [.str "add", .str "sub"]) = some (.val (.bl false)) := by kernel_rfl
@[simp] theorem i_knee_neg_times : gIn (.str "knee") (.tup [.str "neg", .str "times"]) = some (.val (.bl false)) := by kernel_rfl
@[simp] theorem i_knee_knee_abs : gIn (.str "knee") (.tup [.str "knee", .str "abs"]) = some (.val (.bl true)) := by kernel_rfl
@[simp] theorem q_abs_neg : gEq (.str "abs") (.str "neg") = some (.val (.bl false)) := by kernel_rfl
@[simp] theorem q_abs_times : gEq (.str "abs") (.str "times") = some (.val (.bl false)) := by kernel_rfl
@[simp] theorem q_abs_num : gEq (.str "abs") (.str "num") = some (.val (.bl false)) := by kernel_rfl
@[simp] theorem q_abs_var : gEq (.str "abs") (.str "var") = some (.val (.bl false)) := by kernel_rfl
@[simp] theorem q_abs_add : gEq (.str "abs") (.str "add") = some (.val (.bl false)) := by kernel_rfl
@[simp] theorem q_abs_clip : gEq (.str "abs") (.str "clip") = some (.val (.bl false)) := by kernel_rfl
@[simp] theorem i_abs_add_sub : gIn (.str "abs") (.tup [.str "add", .str "sub"]) = some (.val (.bl false)) := by kernel_rfl
@[simp] theorem i_abs_neg_times : gIn (.str "abs") (.tup [.str "neg", .str "times"]) = some (.val (.bl false)) := by kernel_rfl
@[simp] theorem i_abs_knee_abs : gIn (.str "abs") (.tup [.str "knee", .str "abs"]) = some (.val (.bl true)) := by kernel_rfl
@[simp] theorem q_clip_neg : gEq (.str "clip") (.str "neg") = some (.val (.bl false)) := by kernel_rfl
@[simp] theorem q_clip_times : gEq (.str "clip") (.str "times") = some (.val (.bl false)) := by kernel_rfl
@[simp] theorem q_clip_num : gEq (.str "clip") (.str "num") = some (.val (.bl false)) := by kernel_rfl
@[simp] theorem q_clip_var : gEq (.str "clip") (.str "var") = some (.val (.bl false)) := by kernel_rfl
@[simp] theorem q_clip_add : gEq (.str "clip") (.str "add") = some (.val (.bl false)) := by kernel_rfl
@[simp] theorem q_clip_clip : gEq (.str "clip") (.str "clip") = some (.val (.bl true)) := by kernel_rfl
@[simp] theorem i_clip_add_sub : gIn (.str "clip") (.tup [.str "add", .str "sub"]) = some (.val (.bl false)) := by kernel_rfl
@[simp] theorem i_clip_neg_times : gIn (.str "clip") (.tup [.str "neg", .str "times"]) = some (.val (.bl false)) := by kernel_rfl
@[simp] theorem i_clip_knee_abs : gIn (.str "clip") (.tup [.str "knee", .str "abs"]) = some (.val (.bl false)) := by kernel_rfl
@[simp] theorem q_max_neg : gEq (.str "max") (.str "neg") = some (.val (.bl false)) := by kernel_rfl
@[simp] theorem q_max_times : gEq (.str "max") (.str "times") = some (.val (.bl false)) := by kernel_rfl
@[simp] theorem q_max_num : gEq (.str "max") (.str "num") = some (.val (.bl false)) := by kernel_rfl
@[simp] theorem q_max_var : gEq (.str "max") (.str "var") = some (.val (.bl false)) := by kernel_rfl
@[simp] theorem q_max_add : gEq (.str "max") (.str "add") = some (.val (.bl false)) := by kernel_rfl
@[simp] theorem q_max_clip : gEq (.str "max") (.str "clip") = some (.val (.bl false)) := by kernel_rfl
@[simp] theorem i_max_add_sub : gIn (.str "max") (.tup [.str "add", .str "sub"]) = some (.val (.bl false)) := by kernel_rfl
@[simp] theorem i_max_neg_times : gIn (.str "max") (.tup [.str "neg", .str "times"]) = some (.val (.bl false)) := by kernel_rfl
@[simp] theorem i_max_knee_abs : gIn (.str "max") (.tup [.str "knee", .str "abs"]) = some (.val (.bl false)) := by kernel_rfl
@[simp] theorem q_min_neg : gEq (.str "min") (.str "neg") = some (.val (.bl false)) := by kernel_rfl
@[simp] theorem q_min_times : gEq (.str "min") (.str "times") = some (.val (.bl false)) := by kernel_rfl
@[simp] theorem q_min_num : gEq (.str "min") (.str "num") = some (.val (.bl false)) := by kernel_rfl
@[simp] theorem q_min_var : gEq (.str "min") (.str "var") = some (.val (.bl false)) := by kernel_rfl
@[simp] theorem q_min_add : gEq (.str "min") (.str "add") = some (.val (.bl false)) := by kernel_rfl
@[simp] theorem q_min_clip : gEq (.str "min") (.str "clip") = some (.val (.bl false)) := by kernel_rfl
@[simp] theorem i_min_add_sub : gIn (.str "min") (.tup [.str "add", .str "sub"]) = some (.val (.bl false)) := by kernel_rfl
@[simp] theorem i_min_neg_times : gIn (.str "min") (.tup [.str "neg", .str "times"]) = some (.val (.bl false)) := by kernel_rfl
@[simp] theorem i_min_knee_abs : gIn (.str "min") (.tup [.str "knee", .str "abs"]) = some (.val (.bl false)) := by kernel_rfl
@[simp] theorem q_most_same : gEq (.str "most") (.str "same") = some (.val (.bl false)) := by kernel_rfl
@[simp] theorem q_most_most : gEq (.str "most") (.str "most") = some (.val (.bl true)) := by kernel_rfl
@[simp] theorem q_most_less : gEq (.str "most") (.str "less") = some (.val (.bl false)) := by kernel_rfl
@[simp] theorem q_most_not : gEq (.str "most") (.str "not") = some (.val (.bl false)) := by kernel_rfl
@[simp] theorem q_most_and : gEq (.str "most") (.str "and") = some (.val (.bl false)) := by kernel_rfl
@[simp] theorem q_most_or : gEq (.str "most") (.str "or") = some (.val (.bl false)) := by kernel_rfl
@[simp] theorem i_most_yes_no : gIn (.str "most") (.tup [.str "yes", .str "no"]) = some (.val (.bl false)) := by kernel_rfl
@[simp] theorem i_most_most_less_same : gIn (.str "most") (.tup [.str "most", .str "less", .str "same"]) = some (.val (.bl true)) := by kernel_rfl
@[simp] theorem i_most_and_or : gIn (.str "most") (.tup [.str "and", .str "or"]) = some (.val (.bl false)) := by kernel_rfl
@[simp] theorem q_less_same : gEq (.str "less") (.str "same") = some (.val (.bl false)) := by kernel_rfl
@[simp] theorem q_less_most : gEq (.str "less") (.str "most") = some (.val (.bl false)) := by kernel_rfl
@[simp] theorem q_less_less : gEq (.str "less") (.str "less") = some (.val (.bl true)) := by kernel_rfl
@[simp] theorem q_less_not : gEq (.str "less") (.str "not") = some (.val (.bl false)) := by kernel_rfl
@[simp] theorem q_less_and : gEq (.str "less") (.str "and") = some (.val (.bl false)) := by kernel_rfl
@[simp] theorem q_less_or : gEq (.str "less") (.str "or") = some (.val (.bl false)) := by kernel_rfl
@[simp] theorem i_less_yes_no : gIn (.str "less") (.tup [.str "yes", .str "no"]) = some (.val (.bl false)) := by kernel_rfl
@[simp] theorem i_less_most_less_same : gIn (.str "less") (.tup [.str "most", .str "less", .str "same"]) = some (.val (.bl true)) := by kernel_rfl
@[simp] theorem i_less_and_or : gIn (.str "less") (.tup [.str "and", .str "or"]) = some (.val (.bl false)) := by kernel_rfl
@[simp] theorem q_same_same : gEq (.str "same") (.str "same") = some (.val (.bl true)) := by kernel_rfl
@[simp] theorem q_same_most : gEq (.str "same") (.str "most") = some (.val (.bl false)) := by kernel_rfl
@[simp] theorem q_same_less : gEq (.str "same") (.str "less") = some (.val (.bl false)) := by kernel_rfl
@[simp] theorem q_same_not : gEq (.str "same") (.str "not") = some (.val (.bl false)) := by kernel_rfl
@[simp] theorem q_same_and : gEq (.str "same") (.str "and") = some (.val (.bl false)) := by kernel_rfl
@[simp] theorem q_same_or : gEq (.str "same") (.str "or") = some (.val (.bl false)) := by kernel_rfl
@[simp] theorem i_same_yes_no : gIn (.str "same") (.tup [.str "yes", .str "no"]) = some (.val (.bl false)) := by kernel_rfl
@[simp] theorem i_same_most_less_same : gIn (.str "same") (.tup [.str "most", .str "less", .str "same"]) = some (.val (.bl true)) := by kernel_rfl
@[simp] theorem i_same_and_or : gIn (.str "same") (.tup [.str "and", .str "or"]) = some (.val (.bl false)) := by kernel_rfl
@[simp] theorem q_not_same : gEq (.str "not") (.str "same") = some (.val (.bl false)) := by kernel_rfl
@[simp] theorem q_not_most : gEq (.str "not") (.str "most") = some (.val (.bl false)) := by kernel_rfl
@[simp] theorem q_not_less : gEq (.str "not") (.str "less") = some (.val (.bl false)) := by kernel_rfl
@[simp] theorem q_not_not : gEq (.str "not") (.str "not") = some (.val (.bl true)) := by kernel_rfl
@[simp] theorem q_not_and : gEq (.str "not") (.str "and") = some (.val (.bl false)) := by kernel_rfl
@[simp] theorem q_not_or : gEq (.str "not") (.str "or") = some (.val (.bl false)) := by kernel_rfl
@[simp] theorem i_not_yes_no : gIn (.str "not") (.tup [.str "yes", .str "no"]) = some (.val (.bl false)) := by kernel_rfl
@[simp] theorem i_not_most_less_same : gIn (.str "not") (.tup [.str "most", .str "less", .str "same"]) = some (.val (.bl false)) := by kernel_rfl
@[simp] theorem i_not_and_or : gIn (.str "not") (.tup [.str "and", .str "or"]) = some (.val (.bl false)) := by kernel_rfl
@[simp] theorem q_and_same : gEq (.str "and") (.str "same") = some (.val (.bl false)) := by kernel_rfl
@[simp] theorem q_and_most : gEq (.str "and") (.str "most") = some (.val (.bl false)) := by kernel_rfl
@[simp] theorem q_and_less : gEq (.str "and") (.str "less") = some (.val (.bl false)) := by kernel_rfl
@[simp] theorem q_and_not : gEq (.str "and") (.str "not") = some (.val (.bl false)) := by kernel_rfl
@[simp] theorem q_and_and : gEq (.str "and") (.str "and") = some (.val (.bl true)) := by kernel_rfl
@[simp] theorem q_and_or : gEq (.str "and") (.str "or") = some (.val (.bl false)) := by kernel_rfl
@[simp] theorem i_and_yes_no : gIn (.str "and") (.tup [.str "yes", .str "no"]) = some (.val (.bl false)) := by kernel_rfl
@[simp] theorem i_and_most_less_same : gIn (.str "and") (.tup [.str "most", .str "less", .str "same"]) = some (.val (.bl false)) := by kernel_rfl
@[simp] theorem i_and_and_or : gIn (.str "and") (.tup [.str "and", .str "or"]) = some (.val (.bl true)) := by kernel_rfl
@[simp] theorem q_or_same : gEq (.str "or") (.str "same") = some (.val (.bl false)) := by kernel_rfl
@[simp] theorem q_or_most : gEq (.str "or") (.str "most") = some (.val (.bl false)) := by kernel_rfl
@[simp] theorem q_or_less : gEq (.str "or") (.str "less") = some (.val (.bl false)) := by kernel_rfl
@[simp] theorem q_or_not : gEq (.str "or") (.str "not") = some (.val (.bl false)) := by kernel_rfl
@[simp] theorem q_or_and : gEq (.str "or") (.str "and") = some (.val (.bl false)) := by kernel_rfl
@[simp] theorem q_or_or : gEq (.str "or") (.str "or") = some (.val (.bl true)) := by kernel_rfl
@[simp] theorem i_or_yes_no : gIn (.str "or") (.tup [.str "yes", .str "no"]) = some (.val (.bl false)) := by kernel_rfl
@[simp] theorem i_or_most_less_same : gIn (.str "or") (.tup [.str "most", .str "less", .str "same"]) = some (.val (.bl false)) := by kernel_rfl
@[simp] theorem i_or_and_or : gIn (.str "or") (.tup [.str "and", .str "or"]) = some (.val (.bl true)) := by kernel_rfl
@[simp] theorem n_most_same : gNe (.str "most") (.str "same") = some (.val (.bl true)) := by kernel_rfl
@[simp] theorem n_less_same : gNe (.str "less") (.str "same") = some (.val (.bl true)) := by kernel_rfl
@[simp] theorem n_same_same : gNe (.str "same") (.str "same") = some (.val (.bl false)) := by kernel_rfl
end K44

/-! K44g -/
namespace K44
open PySem PySem.Spec PyProof.Rows L2 Kn

def wx : Nat → Nat
  | 0 => 4
  | n + 1 => 3 * wx n + 40
def cx : Nat → Nat
  | 0 => 2
  | n + 1 => 3 * cx n + 20
section
variable {fu : Nat}
/-- what a call that makes words gives -/
def WOut (o : O R) (ps : Slot) (rest : List Slot) (k n : Nat) : Prop := ∃ r ws ps', o = .ok r (keepBor ps' :: rest) ∧ ListR r ws ∧ Wds k ws ∧ Sm2 ps ps' ∧ PA n ps'
theorem WOut.le {o : O R} {ps : Slot} {rest : List Slot} {k n k' n' : Nat} (h : WOut o ps rest k n) (hk : k ≤ k') (hn : n ≤ n') : WOut o ps rest k' n' := by
  obtain ⟨r, ws, ps', e, h1, h2, h3, h4⟩ := h
  exact ⟨r, ws, ps', e, h1, ⟨h2.1, Nat.le_trans h2.2 hk⟩, h3, h4.le hn⟩
def ExO (fu m n k c : Nat) (ps : Slot) (e : D) : Prop := WOut (run fu m 25 [ps, .val e]) ps [.non] k (n + c)
def TmO (fu m n k c : Nat) (ps : Slot) (e : D) : Prop := WOut (run fu m 24 [ps, .val e]) ps [.non] k (n + c)
/-- a term of an expression that is no opposite and no product -/
theorem term_of {m n k c : Nat} {ps : Slot} {e : D} {tag : Str} {b : Bool} (hm : 4 ≤ m) (hE : ExO fu (m - 1) n k c ps e) (h0 : gIdx e (.int 0) = some (.val (.str tag))) (h1 : gEq (.str tag) (.str "neg") = some (.val (.bl false))) (h2 : gEq (.str tag) (.str "times") = some (.val (.bl false)))
    (h3 : gIn (.str tag) (.tup [.str "add", .str "sub"]) = some (.val (.bl b))) (hk : k < 100000) (hn : n + c < 700000000) : TmO fu m n (k + 2) (c + 1) ps e := by
  obtain ⟨r, ws, ps1, e1, hr, hw, s1, p1⟩ := hE
  obtain ⟨r2, ws2, ps2, e2, hr2, hw2, s2, p2⟩ := brack23 (fu := fu) (m := m - 1) (by omega) p1 (by omega) b w_open w_close hw (by omega)
  have c1 := callPen (C := CC fu (m - 1)) (i := 25) (g := sKCons 0 (sVar 1) sKNil) (S := [.val e]) (S1 := [.val e]) (ds := [e]) s1.refl s1 (by simp) e1 rfl hr.vf
  have c2 := callPen (C := CC fu (m - 1)) (i := 23) (g := (sKCons 0 (sCall 25 (sKCons 2 (sVar 0) (sKCons 0 (sVar 1) sKNil))) (sKCons 0 (sC (.str "(")) (sKCons 0 (sC (.str ")")) (sKCons 0 (sOp2 gIn (sOp2 gIdx (sVar 1) (sC (.int 0))) (sTup (sCons (sC (.str "add")) (sCons (sC (.str "sub")) sNil)))) sKNil))))) (S := [.val e]) (S1 := [.val e]) (ds := [.lst ws, .str "(", .str ")", .bl b]) s1 s2 (by
    rcases hr with q | q <;> subst q <;> simp [-x_sCall, c1, h0, h3]) e2 rfl hr2.vf
  refine ⟨r2, ws2, ps2, ?_, hr2, hw2, s1.trans s2, p2.le (by omega)⟩
  rw [run_m (F := ⟨2, 2, F__law_term_words⟩) rfl (by omega), bodyRun_eq]
  rcases hr2 with q | q <;> subst q <;> simp [-x_sCall, F__law_term_words, h0, h1, h2, c2]
end
end K44

/-! K44h -/
namespace K44
open PySem PySem.Spec PyProof.Rows L2 Kn

theorem atI_2 {α : Type} (x y z : α) (l : List α) : atI (x :: y :: z :: l) 2 = some z := by
  unfold atI ixN
  rw [if_pos (by decide), if_pos (by simp; omega)]
  rfl
theorem atI_3 {α : Type} (x y z w : α) (l : List α) : atI (x :: y :: z :: w :: l) 3 = some w := by
  unfold atI ixN
  rw [if_pos (by decide), if_pos (by simp; omega)]
  rfl
theorem Wds.app {k j : Nat} {a b : List D} (h : Wds k a) (h' : Wds j b) : Wds (k + j) (a ++ b) := ⟨fun d hd => by
  rcases List.mem_append.mp hd with q | q
  · exact h.1 d q
  · exact h'.1 d q, by rw [List.length_append]; have := h.2; have := h'.2; omega⟩
theorem Wds.cons {k : Nat} {d : D} {b : List D} (h : IsWd d) (h' : Wds k b) : Wds (k + 1) (d :: b) := ⟨fun x hx => by
  rcases List.mem_cons.mp hx with q | q
  · subst q; exact h
  · exact h'.1 x q, by rw [List.length_cons]; have := h'.2; omega⟩
theorem Wds.nil : Wds 0 [] := ⟨fun _ h => (nomatch h), Nat.le_refl _⟩
theorem Wds.one {d : D} (h : IsWd d) : Wds 1 [d] := Wds.cons h Wds.nil
theorem gAdd_ll {a b : List D} (h : a.length + b.length ≤ 16777216) : gAdd (.lst a) (.lst b) = some (.fr (.lst (a ++ b))) := if_pos h
section
variable {fu : Nat}
theorem ex_num {m n : Nat} {ps : Slot} (hm : 2 ≤ m) (hp : PA n ps) {r : D} (hr : IsRat 24 r) : ExO fu m n 4 0 ps (.tup [.str "num", r]) := by
  obtain ⟨ws, e1, hw⟩ := ratio22 (fu := fu) (m := m - 1) (by omega) hr
  refine ⟨.fr (.lst ws), ws, ps, ?_, .inr rfl, hw, hp.refl, hp⟩
  rw [run_m (F := ⟨2, 5, F__law_expr_words⟩) rfl (by omega), bodyRun_eq]
  rcases hp with q | ⟨p, q, _⟩ <;> subst q <;> simp [F__law_expr_words, atI_0, atI_1, e1]
theorem ex_var {m n : Nat} {ps : Slot} (hm : 1 ≤ m) (hp : PA n ps) {x : D} (hx : IsNm x) : ExO fu m n 1 0 ps (.tup [.str "var", x]) := by
  refine ⟨.fr (.lst [x]), [x], ps, ?_, .inr rfl, .one (nm_wd hx), hp.refl, hp⟩
  rw [run_m (F := ⟨2, 5, F__law_expr_words⟩) rfl (by omega), bodyRun_eq]
  rcases hp with q | ⟨p, q, _⟩ <;> subst q <;> simp [F__law_expr_words, atI_0, atI_1]
/-- a list freed of how it is given -/
theorem ex_sum {m n k c k2 c2 : Nat} {ps : Slot} {a b : D} {s : Str} (hs : s = Str.ofString "add" ∨ s = Str.ofString "sub") (hm : 2 ≤ m) (hA : ExO fu (m - 1) n k c ps a) (hB : ∀ ps1, PA (n + c) ps1 → TmO fu (m - 1) (n + c) k2 c2 ps1 b) (hk : k + k2 < 100000) : ExO fu m n (k + 1 + k2) (c + c2) ps (.tup [.str s, a, b]) := by
  obtain ⟨r, ws, ps1, e1, hr, hw, s1, p1⟩ := hA
  obtain ⟨r2, ws2, ps2, e2, hr2, hw2, s2, p2⟩ := hB ps1 p1
  have z1 : ws.length + 1 ≤ 16777216 := by have := hw.2; omega
  have z2 : (ws.length + 1) + ws2.length ≤ 16777216 := by have := hw.2; have := hw2.2; omega
  have c1 := callPen (C := CC fu (m - 1)) (i := 25) (g := sKCons 0 (sOp2 gIdx (sVar 1) (sC (.int 1))) sKNil) (S := [.val (.tup [.str s, a, b]), .val (.str s), .non, .non]) (S1 := [.val (.tup [.str s, a, b]), .val (.str s), .non, .non]) (ds := [a]) s1.refl s1 (by simp [atI_1]) e1 rfl hr.vf
  have c2 := callPen (C := CC fu (m - 1)) (i := 24) (g := sKCons 0 (sOp2 gIdx (sVar 1) (sC (.int 2))) sKNil) (S := [.val (.tup [.str s, a, b]), .val (.str s), .non, .non]) (S1 := [.val (.tup [.str s, a, b]), .val (.str s), .non, .non]) (ds := [b]) s2.refl s2 (by simp [atI_2]) e2 rfl hr2.vf
  have hsg : IsWd (.str "+") ∧ IsWd (.str "-") := ⟨w_plus, w_minus⟩
  rcases hs with hs | hs <;> subst hs
  · refine ⟨.fr (.lst ((ws ++ [.str "+"]) ++ ws2)), _, ps2, ?_, .inr rfl, (hw.app (.one w_plus)).app hw2, s1.trans s2, p2.le (by omega)⟩
    rw [run_m (F := ⟨2, 5, F__law_expr_words⟩) rfl (by omega), bodyRun_eq]
    rcases hr with q | q <;> subst q <;> rcases hr2 with q | q <;> subst q <;> simp [-x_sCall, F__law_expr_words, atI_0, c1, c2, gAdd, z1, z2]
  · refine ⟨.fr (.lst ((ws ++ [.str "-"]) ++ ws2)), _, ps2, ?_, .inr rfl, (hw.app (.one w_minus)).app hw2, s1.trans s2, p2.le (by omega)⟩
    rw [run_m (F := ⟨2, 5, F__law_expr_words⟩) rfl (by omega), bodyRun_eq]
    rcases hr with q | q <;> subst q <;> rcases hr2 with q | q <;> subst q <;> simp [-x_sCall, F__law_expr_words, atI_0, c1, c2, gAdd, z1, z2]
end
end K44

/-! K44i -/
namespace K44
open PySem PySem.Spec PyProof.Rows L2 Kn

section
variable {fu : Nat}
theorem tm_neg {m n k c : Nat} {ps : Slot} {a : D} (hm : 4 ≤ m) (hA : TmO fu (m - 1) n k c ps a) (hk : k < 100000) (hn : n + c < 700000000) : TmO fu m n (k + 3) (c + 1) ps (.tup [.str "neg", a]) := by
  obtain ⟨r, ws, ps1, e1, hr, hw, s1, p1⟩ := hA
  have z1 : 1 + ws.length ≤ 16777216 := by have := hw.2; omega
  have z2 : ws.length + 1 ≤ 16777216 := by have := hw.2; omega
  obtain ⟨r2, ws2, ps2, e2, hr2, hw2, s2, p2⟩ := brack23 (fu := fu) (m := m - 1) (by omega) p1 (by omega) false w_open w_close (Wds.cons w_minus hw) (by omega)
  have c1 := callPen (C := CC fu (m - 1)) (i := 24) (g := sKCons 0 (sOp2 gIdx (sVar 1) (sC (.int 1))) sKNil) (S := [.val (.tup [.str "neg", a])]) (S1 := [.val (.tup [.str "neg", a])]) (ds := [a]) s1.refl s1 (by simp [atI_1]) e1 rfl hr.vf
  have c2 := callPen (C := CC fu (m - 1)) (i := 23) (g := (sKCons 0 (sOp2 gAdd (sLst (sCons (sC (.str "-")) sNil)) (sCall 24 (sKCons 2 (sVar 0) (sKCons 0 (sOp2 gIdx (sVar 1) (sC (.int 1))) sKNil)))) (sKCons 0 (sC (.str "(")) (sKCons 0 (sC (.str ")")) (sKCons 0 (sC (.bl false)) sKNil))))) (S := [.val (.tup [.str "neg", a])]) (S1 := [.val (.tup [.str "neg", a])]) (ds := [.lst (.str "-" :: ws), .str "(", .str ")", .bl false]) s1 s2 (by
    rcases hr with q | q <;> subst q <;> simp [-x_sCall, c1, gAdd, z1, z2]) e2 rfl hr2.vf
  refine ⟨r2, ws2, ps2, ?_, hr2, hw2, s1.trans s2, p2.le (by omega)⟩
  rw [run_m (F := ⟨2, 2, F__law_term_words⟩) rfl (by omega), bodyRun_eq]
  rcases hr2 with q | q <;> subst q <;> simp [-x_sCall, F__law_term_words, atI_0, c2]
theorem tm_times {m n k c : Nat} {ps : Slot} {q a : D} (hm : 4 ≤ m) (hp : PA n ps) (hq : IsRat 24 q) (hA : TmO fu (m - 1) n k c ps a) (hk : k < 100000) (hn : n + c < 700000000) : TmO fu m n (k + 7) (c + 1) ps (.tup [.str "times", q, a]) := by
  obtain ⟨w0, e0, hw0⟩ := ratio22 (fu := fu) (m := m - 1) (by omega) hq
  obtain ⟨r, ws, ps1, e1, hr, hw, s1, p1⟩ := hA
  have z1 : w0.length + 1 ≤ 16777216 := by have := hw0.2; omega
  have z2 : w0.length + 1 + ws.length ≤ 16777216 := by have := hw0.2; have := hw.2; omega
  obtain ⟨r2, ws2, ps2, e2, hr2, hw2, s2, p2⟩ := brack23 (fu := fu) (m := m - 1) (by omega) p1 (by omega) false w_open w_close ((hw0.app (Wds.one w_star)).app hw) (by omega)
  have c1 := callPen (C := CC fu (m - 1)) (i := 24) (g := sKCons 0 (sOp2 gIdx (sVar 1) (sC (.int 2))) sKNil) (S := [.val (.tup [.str "times", q, a])]) (S1 := [.val (.tup [.str "times", q, a])]) (ds := [a]) s1.refl s1 (by simp [atI_2]) e1 rfl hr.vf
  have c0 : sCall 22 (sKCons 0 (sOp2 gIdx (sVar 1) (sC (.int 1))) sKNil) (CC fu (m - 1)) [ps, .val (.tup [.str "times", q, a])] = .ok (.fr (.lst w0)) [ps, .val (.tup [.str "times", q, a])] := by
    rcases hp with z | ⟨p, z, _⟩ <;> subst z <;> simp [atI_1, e0]
  have c2 := callPen (C := CC fu (m - 1)) (i := 23) (g := (sKCons 0 (sOp2 gAdd (sOp2 gAdd (sCall 22 (sKCons 0 (sOp2 gIdx (sVar 1) (sC (.int 1))) sKNil)) (sLst (sCons (sC (.str "*")) sNil))) (sCall 24 (sKCons 2 (sVar 0) (sKCons 0 (sOp2 gIdx (sVar 1) (sC (.int 2))) sKNil)))) (sKCons 0 (sC (.str "(")) (sKCons 0 (sC (.str ")")) (sKCons 0 (sC (.bl false)) sKNil))))) (S := [.val (.tup [.str "times", q, a])]) (S1 := [.val (.tup [.str "times", q, a])]) (ds := [.lst ((w0 ++ [D.str (Str.ofString "*")]) ++ ws), .str "(", .str ")", .bl false]) s1 s2 (by
    rcases hr with z | z <;> subst z <;> simp [-x_sCall, c0, c1, gAdd, z1, z2]) e2 rfl hr2.vf
  refine ⟨r2, ws2, ps2, ?_, hr2, ⟨hw2.1, by have := hw2.2; omega⟩, s1.trans s2, p2.le (by omega)⟩
  rw [run_m (F := ⟨2, 2, F__law_term_words⟩) rfl (by omega), bodyRun_eq]
  rcases hr2 with z | z <;> subst z <;> simp [-x_sCall, F__law_term_words, atI_0, c2]
/-- an opposite, a product: the term's words -/
theorem ex_term {m n k c : Nat} {ps : Slot} {l : List D} {s : Str} (hs : s = Str.ofString "neg" ∨ s = Str.ofString "times") (hm : 2 ≤ m) (hA : TmO fu (m - 1) n k c ps (.tup (.str s :: l))) : ExO fu m n k c ps (.tup (.str s :: l)) := by
  obtain ⟨r, ws, ps1, e1, hr, hw, s1, p1⟩ := hA
  have c1 := callPen (C := CC fu (m - 1)) (i := 24) (g := sKCons 0 (sVar 1) sKNil) (S := [.val (.tup (.str s :: l)), .val (.str s), .non, .non]) (S1 := [.val (.tup (.str s :: l)), .val (.str s), .non, .non]) (ds := [.tup (.str s :: l)]) s1.refl s1 (by simp) e1 rfl hr.vf
  refine ⟨r, ws, ps1, ?_, hr, hw, s1, p1⟩
  rw [run_m (F := ⟨2, 5, F__law_expr_words⟩) rfl (by omega), bodyRun_eq]
  rcases hs with hs | hs <;> subst hs <;> rcases hr with q | q <;> subst q <;> simp [-x_sCall, F__law_expr_words, atI_0, c1]
theorem ex_knee {m n k c : Nat} {ps : Slot} {a : D} {s : Str} (hs : s = Str.ofString "knee" ∨ s = Str.ofString "abs") (hm : 2 ≤ m) (hA : ExO fu (m - 1) n k c ps a) (hk : k < 100000) : ExO fu m n (k + 3) c ps (.tup [.str s, a]) := by
  obtain ⟨r, ws, ps1, e1, hr, hw, s1, p1⟩ := hA
  have z1 : 2 + ws.length ≤ 16777216 := by have := hw.2; omega
  have z2 : ws.length + 1 + 1 ≤ 16777216 := by have := hw.2; omega
  have z3 : ws.length + 1 + 1 + 1 ≤ 16777216 := by have := hw.2; omega
  have z4 : 2 + ws.length + 1 ≤ 16777216 := by omega
  have c1 := callPen (C := CC fu (m - 1)) (i := 25) (g := sKCons 0 (sOp2 gIdx (sVar 1) (sC (.int 1))) sKNil) (S := [.val (.tup [.str s, a]), .val (.str s), .non, .non]) (S1 := [.val (.tup [.str s, a]), .val (.str s), .non, .non]) (ds := [a]) s1.refl s1 (by simp [atI_1]) e1 rfl hr.vf
  have hsw : IsWd (.str s) := by rcases hs with q | q <;> subst q; exact w_knee; exact w_abs
  refine ⟨.fr (.lst (.str s :: .str "(" :: (ws ++ [.str ")"]))), _, ps1, ?_, .inr rfl, (Wds.cons hsw (Wds.cons w_open (hw.app (.one w_close)))), s1, p1⟩
  rw [run_m (F := ⟨2, 5, F__law_expr_words⟩) rfl (by omega), bodyRun_eq]
  rcases hs with hs | hs <;> subst hs <;> rcases hr with q | q <;> subst q <;> simp [-x_sCall, F__law_expr_words, atI_0, c1, gAdd, z1, z2, z3, z4]
end
end K44

/-! K44j -/
namespace K44
open PySem PySem.Spec PyProof.Rows L2 Kn

section
variable {fu : Nat}
theorem ex_clip {m n k c : Nat} {ps : Slot} {a lo hi : D} (hm : 2 ≤ m) (hlo : IsRat 24 lo) (hhi : IsRat 24 hi) (hA : ExO fu (m - 1) n k c ps a) (hk : k < 100000) : ExO fu m n (k + 13) c ps (.tup [.str "clip", a, lo, hi]) := by
  obtain ⟨w1, f1, g1⟩ := ratio22 (fu := fu) (m := m - 1) (by omega) hlo
  obtain ⟨w2, f2, g2⟩ := ratio22 (fu := fu) (m := m - 1) (by omega) hhi
  obtain ⟨r, ws, ps1, e1, hr, hw, s1, p1⟩ := hA
  have l1 := g1.2
  have l2 := g2.2
  have l3 := hw.2
  have c1 := callPen (C := CC fu (m - 1)) (i := 25) (g := sKCons 0 (sOp2 gIdx (sVar 1) (sC (.int 1))) sKNil) (S := [.val (.tup [.str "clip", a, lo, hi]), .val (.str "clip"), .non, .non]) (S1 := [.val (.tup [.str "clip", a, lo, hi]), .val (.str "clip"), .non, .non]) (ds := [a]) s1.refl s1 (by simp [atI_1]) e1 rfl hr.vf
  have c2 : sCall 22 (sKCons 0 (sOp2 gIdx (sVar 1) (sC (.int 2))) sKNil) (CC fu (m - 1)) [ps1, .val (.tup [.str "clip", a, lo, hi]), .val (.str "clip"), .non, .non] = .ok (.fr (.lst w1)) [ps1, .val (.tup [.str "clip", a, lo, hi]), .val (.str "clip"), .non, .non] := by
    rcases p1 with z | ⟨p, z, _⟩ <;> subst z <;> simp [atI_2, f1]
  have c3 : sCall 22 (sKCons 0 (sOp2 gIdx (sVar 1) (sC (.int 3))) sKNil) (CC fu (m - 1)) [ps1, .val (.tup [.str "clip", a, lo, hi]), .val (.str "clip"), .non, .non] = .ok (.fr (.lst w2)) [ps1, .val (.tup [.str "clip", a, lo, hi]), .val (.str "clip"), .non, .non] := by
    rcases p1 with z | ⟨p, z, _⟩ <;> subst z <;> simp [atI_3, f2]
  have W : Wds (k + 13) (((((([D.str (Str.ofString "clip"), D.str (Str.ofString "(")] ++ ws) ++ [D.str (Str.ofString ",")]) ++ w1) ++ [D.str (Str.ofString ",")]) ++ w2) ++ [D.str (Str.ofString ")")]) := by
    have q := ((((((Wds.cons w_clip (Wds.one w_open)).app hw).app (Wds.one w_comma)).app g1).app (Wds.one w_comma)).app g2).app (Wds.one w_close)
    exact ⟨q.1, by have := q.2; omega⟩
  refine ⟨_, _, ps1, ?_, .inr rfl, W, s1, p1⟩
  rw [run_m (F := ⟨2, 5, F__law_expr_words⟩) rfl (by omega), bodyRun_eq]
  rcases hr with q | q <;> subst q <;> simp (disch := (simp only [List.length_append, List.length_cons, List.length_nil]; omega)) [-x_sCall, F__law_expr_words, atI_0, c1, c2, c3, gAdd_ll]
end
end K44

/-! K44k -/
namespace K44
open PySem PySem.Spec PyProof.Rows L2 Kn

section
variable {fu : Nat}
theorem atI_get {ds : List D} {i : Nat} (h : i < ds.length) : atI ds (i : Int) = some ds[i] := by
  obtain ⟨x, h1, h2⟩ := atI_nat (xs := ds) (i := (i : Int)) (by omega) (by omega)
  rw [h1, ← h2, Int.toNat_natCast, List.getElem?_eq_getElem h]
/-- one turn over the parts of a greatest or least -/
theorem max_turn {m n k c i : Nat} {ps : Slot} {es acc : List D} {d : D} {s : Str} {s4 : Slot} (hi : i < es.length) (ha : acc.length ≤ 1000000) (hk : k < 100000) (hf : free s4 = true) (hA : ExO fu (m - 1) n k c ps es[i]) :
    ∃ ws ps1, (sSet 3 (sOp2 gAdd (sOp2 gAdd (sVar 3) (sIte (sB (sOp2 gGt (sVar 4) (sC (.int 0)))) (sLst (sCons (sC (.str ",")) sNil)) (sLst sNil))) (sCall 25 (sKCons 2 (sVar 0) (sKCons 0 (sOp2 gIdx (sOp2 gIdx (sVar 1) (sC (.int 1))) (sVar 4)) sKNil))))) (CC fu (m - 1)) [ps, .val (.tup [.str s, .tup es]), .val (.str s), .own (.lst acc), .val (.int (i : Int))]
      = .nx [ps1, .val (.tup [.str s, .tup es]), .val (.str s), .own (.lst (acc ++ ws)), .val (.int (i : Int))] ∧ Wds (k + 1) ws ∧ Sm2 ps ps1 ∧ PA (n + c) ps1 := by
  obtain ⟨r, ws, ps1, e1, hr, hw, s1, p1⟩ := hA
  have l1 := hw.2
  have c1 := callPen (C := CC fu (m - 1)) (i := 25) (g := sKCons 0 (sOp2 gIdx (sOp2 gIdx (sVar 1) (sC (.int 1))) (sVar 4)) sKNil) (S := [.val (.tup [.str s, .tup es]), .val (.str s), .own (.lst acc), .val (.int (i : Int))]) (S1 := [.val (.tup [.str s, .tup es]), .val (.str s), .own (.lst acc), .val (.int (i : Int))]) (ds := [es[i]]) s1.refl s1 (by simp [atI_1, atI_get hi]) e1 rfl hr.vf
  rcases Nat.eq_zero_or_pos i with hz | hz
  · refine ⟨ws, ps1, ?_, ⟨hw.1, by omega⟩, s1, p1⟩
    have hd : decide (0 < i) = false := by simp; omega
    have z1 : acc.length ≤ 16777216 := by omega
    have z2 : acc.length + ws.length ≤ 16777216 := by omega
    rcases hr with q | q <;> subst q <;> simp [-x_sCall, c1, hd, gAdd, z1, z2]
  · refine ⟨.str "," :: ws, ps1, ?_, Wds.cons w_comma hw, s1, p1⟩
    have hd : decide (0 < i) = true := by simp; omega
    have z1 : acc.length + 1 ≤ 16777216 := by omega
    have z2 : acc.length + 1 + ws.length ≤ 16777216 := by omega
    rcases hr with q | q <;> subst q <;> simp [-x_sCall, c1, hd, gAdd, z1, z2]
def mxBody : Sg := (sSet 3 (sOp2 gAdd (sOp2 gAdd (sVar 3) (sIte (sB (sOp2 gGt (sVar 4) (sC (.int 0)))) (sLst (sCons (sC (.str ",")) sNil)) (sLst sNil))) (sCall 25 (sKCons 2 (sVar 0) (sKCons 0 (sOp2 gIdx (sOp2 gIdx (sVar 1) (sC (.int 1))) (sVar 4)) sKNil)))))
theorem max_loop {m n k c : Nat} {ps : Slot} {es : List D} {s : Str} (h3 : es.length ≤ 3) (hk : k < 100000) (hp : PA n ps) (hA : ∀ n1 ps1, n1 ≤ n + 3 * c → PA n1 ps1 → ∀ e ∈ es, ExO fu (m - 1) n1 k c ps1 e) :
    ∃ ws ps1 s4, forL (CC fu (m - 1)) (tgN 4) mxBody (rangeD 0 es.length) [ps, .val (.tup [.str s, .tup es]), .val (.str s), .own (.lst [.str s, .str "("]), .non] = .nx [ps1, .val (.tup [.str s, .tup es]), .val (.str s), .own (.lst ([.str s, .str "("] ++ ws)), s4] ∧ Wds (3 * k + 3) ws ∧ Sm2 ps ps1 ∧ PA (n + 3 * c) ps1 ∧ free s4 = true := by
  refine forR_ind (P := fun o => ∃ ws ps1 s4, o = .nx [ps1, .val (.tup [.str s, .tup es]), .val (.str s), .own (.lst ([.str s, .str "("] ++ ws)), s4] ∧ Wds (3 * k + 3) ws ∧ Sm2 ps ps1 ∧ PA (n + 3 * c) ps1 ∧ free s4 = true)
    (fun i S => ∃ ws ps1 s4, S = [ps1, .val (.tup [.str s, .tup es]), .val (.str s), .own (.lst ([.str s, .str "("] ++ ws)), s4] ∧ Wds (i * (k + 1)) ws ∧ Sm2 ps ps1 ∧ PA (n + i * c) ps1 ∧ free s4 = true) ⟨[], ps, .non, rfl, ⟨by simp, by simp⟩, hp.refl, by rw [Nat.zero_mul]; exact hp, rfl⟩ ?_ ?_
  · rintro i S hi ⟨ws, ps1, s4, rfl, hw, s1, p1, hf⟩
    have b1 : i * (k + 1) ≤ 3 * (k + 1) := Nat.mul_le_mul_right _ (by omega)
    have b2 : (i + 1) * c ≤ 3 * c := Nat.mul_le_mul_right _ (by omega)
    have b3 : (i + 1) * c = i * c + c := Nat.succ_mul _ _
    have b4 : (i + 1) * (k + 1) = i * (k + 1) + (k + 1) := Nat.succ_mul _ _
    have l1 := hw.2
    obtain ⟨w2, ps2, e, hw2, s2, p2⟩ := max_turn (s := s) (acc := [.str s, .str "("] ++ ws) (d := .non) (s4 := .non) hi (by simp; omega) hk rfl (hA (n + i * c) ps1 (by omega) p1 es[i] (List.getElem_mem hi))
    rw [List.append_assoc] at e
    refine ⟨_, ?_, .inl ⟨_, .inl e, ws ++ w2, ps2, .val (.int (i : Int)), rfl, ?_, s1.trans s2, ?_, rfl⟩⟩
    · simp [hf]
    · rw [b4]
      exact hw.app hw2
    · rw [b3, ← Nat.add_assoc]
      exact p2
  · rintro S ⟨ws, ps1, s4, rfl, hw, s1, p1, hf⟩
    have b1 : es.length * (k + 1) ≤ 3 * (k + 1) := Nat.mul_le_mul_right _ h3
    have b2 : es.length * c ≤ 3 * c := Nat.mul_le_mul_right _ h3
    exact ⟨ws, ps1, s4, rfl, ⟨hw.1, by have := hw.2; omega⟩, s1, p1.le (by omega), hf⟩
/-- a greatest, a least: its words -/
theorem ex_max {m n k c : Nat} {ps : Slot} {es : List D} {s : Str} (hs : s = Str.ofString "max" ∨ s = Str.ofString "min") (hm : 2 ≤ m) (h3 : es.length ≤ 3) (hk : k < 100000) (hp : PA n ps) (hA : ∀ n1 ps1, n1 ≤ n + 3 * c → PA n1 ps1 → ∀ e ∈ es, ExO fu (m - 1) n1 k c ps1 e) : ExO fu m n (3 * k + 6) (3 * c) ps (.tup [.str s, .tup es]) := by
  obtain ⟨ws, ps1, s4, e, hw, s1, p1, hf⟩ := max_loop (m := m) (s := s) h3 hk hp hA
  have l1 := hw.2
  have z1 : es.length ≤ 16777216 := by omega
  have z2 : ws.length + 1 + 1 + 1 ≤ 16777216 := by omega
  have hsw : IsWd (.str s) := by rcases hs with q | q <;> subst q; exact w_max; exact w_min
  have hrg : rgOk (es.length : Int) := rgOk_nat (by omega)
  refine ⟨.fr (.lst (.str s :: .str "(" :: (ws ++ [.str ")"]))), _, ps1, ?_, .inr rfl, ?_, s1, p1⟩
  · rw [run_m (F := ⟨2, 5, F__law_expr_words⟩) rfl (by omega), bodyRun_eq]
    unfold mxBody at e
    rcases hs with hs | hs <;> subst hs <;> simp [-x_sCall, F__law_expr_words, atI_0, atI_1, e, hrg, gAdd, z2]
  · have q := Wds.cons hsw (Wds.cons w_open (hw.app (Wds.one w_close)))
    exact ⟨q.1, by have := q.2; omega⟩
end
end K44

/-! K44l -/
namespace K44
open PySem PySem.Spec PyProof.Rows L2 Kn

theorem wx_lt : ∀ {n : Nat}, n ≤ 5 → wx n < 10000
  | 0, _ => by decide
  | 1, _ => by decide
  | 2, _ => by decide
  | 3, _ => by decide
  | 4, _ => by decide
  | 5, _ => by decide
  | n + 6, h => by omega
section
variable {fu : Nat}
def ExTm (fu dep : Nat) (e : D) : Prop := ∀ m n ps, 4 * dep + 8 ≤ m → PA n ps → n + 4 * cx dep < 600000000 → ExO fu m n (wx dep) (cx dep) ps e ∧ TmO fu m n (wx dep + 2) (cx dep + 1) ps e
theorem ExTm.of {dep : Nat} {e : D} {tag : Str} {b : Bool} (hd : dep ≤ 5) (h0 : gIdx e (.int 0) = some (.val (.str tag))) (h1 : gEq (.str tag) (.str "neg") = some (.val (.bl false))) (h2 : gEq (.str tag) (.str "times") = some (.val (.bl false)))
    (h3 : gIn (.str tag) (.tup [.str "add", .str "sub"]) = some (.val (.bl b)))
    (hE : ∀ m n ps, 4 * dep + 7 ≤ m → PA n ps → n + 4 * cx dep < 600000000 → ExO fu m n (wx dep) (cx dep) ps e) : ExTm fu dep e := by
  intro m n ps hm hp hn
  have hw := wx_lt hd
  exact ⟨hE m n ps (by omega) hp hn, term_of (by omega) (hE (m - 1) n ps (by omega) hp hn) h0 h1 h2 h3 (by omega) (by omega)⟩
theorem ExTm.ofT {dep : Nat} {l : List D} {s : Str} (hs : s = Str.ofString "neg" ∨ s = Str.ofString "times")
    (hE : ∀ m n ps, 4 * dep + 7 ≤ m → PA n ps → n + 4 * cx dep < 600000000 → TmO fu m n (wx dep) (cx dep) ps (.tup (.str s :: l))) : ExTm fu dep (.tup (.str s :: l)) := by
  intro m n ps hm hp hn
  exact ⟨ex_term hs (by omega) (hE (m - 1) n ps (by omega) hp hn), (hE m n ps (by omega) hp hn).le (by omega) (by omega)⟩
theorem ExTm.up {dep : Nat} {e : D} (h : ExTm fu dep e) : ExTm fu (dep + 1) e := by
  intro m n ps hm hp hn
  simp only [cx] at hn
  have q := h m n ps (by omega) hp (by omega)
  exact ⟨q.1.le (by simp only [wx]; omega) (by simp only [cx]; omega), q.2.le (by simp only [wx]; omega) (by simp only [cx]; omega)⟩
theorem ex_both : ∀ (dep : Nat) (e : D), dep ≤ 5 → IsEx dep e → ExTm fu dep e
  | 0, e, _, h => by
    rcases h with ⟨x, hx, rfl⟩ | ⟨r, hr, rfl⟩
    · exact .of (tag := "var") (by omega) (by simp [atI_0]) (by simp) (by simp) i_var_add_sub fun m n ps hm hp hn => (ex_var (by omega) hp hx).le (by decide) (by omega)
    · exact .of (tag := "num") (by omega) (by simp [atI_0]) (by simp) (by simp) i_num_add_sub fun m n ps hm hp hn => (ex_num (by omega) hp hr).le (by decide) (by omega)
  | dep + 1, e, hd, h => by
    have hw := wx_lt (n := dep) (by omega)
    rcases h with h | ⟨s, a, b, hs, ha, hb, rfl⟩ | ⟨a, ha, rfl⟩ | ⟨r, a, hr, ha, rfl⟩ | ⟨s, a, hs, ha, rfl⟩ | ⟨s, es, hs, _, h3, hes, rfl⟩ | ⟨a, lo, hi, ha, hlo, hhi, rfl⟩
    · exact (ex_both dep e (by omega) h).up
    · have A := ex_both dep a (by omega) ha
      have B := ex_both dep b (by omega) hb
      refine .of (tag := s) (b := true) hd (by simp [atI_0]) (by rcases hs with q | q <;> subst q <;> simp) (by rcases hs with q | q <;> subst q <;> simp) (by rcases hs with q | q <;> subst q; exact i_add_add_sub; exact i_sub_add_sub) fun m n ps hm hp hn => ?_
      simp only [cx] at hn
      exact (ex_sum hs (by omega) (A (m - 1) n ps (by omega) hp (by omega)).1 (fun ps1 hp1 => (B (m - 1) (n + cx dep) ps1 (by omega) hp1 (by omega)).2) (by omega)).le (by simp only [wx]; omega) (by simp only [cx]; omega)
    · have A := ex_both dep a (by omega) ha
      refine .ofT (.inl rfl) fun m n ps hm hp hn => ?_
      simp only [cx] at hn
      exact (tm_neg (by omega) (A (m - 1) n ps (by omega) hp (by omega)).2 (by omega) (by omega)).le (by simp only [wx]; omega) (by simp only [cx]; omega)
    · have A := ex_both dep a (by omega) ha
      refine .ofT (.inr rfl) fun m n ps hm hp hn => ?_
      simp only [cx] at hn
      exact (tm_times (by omega) hp hr (A (m - 1) n ps (by omega) hp (by omega)).2 (by omega) (by omega)).le (by simp only [wx]; omega) (by simp only [cx]; omega)
    · have A := ex_both dep a (by omega) ha
      refine .of (tag := s) (b := false) hd (by simp [atI_0]) (by rcases hs with q | q <;> subst q <;> simp) (by rcases hs with q | q <;> subst q <;> simp) (by rcases hs with q | q <;> subst q <;> simp) fun m n ps hm hp hn => ?_
      simp only [cx] at hn
      exact (ex_knee hs (by omega) (A (m - 1) n ps (by omega) hp (by omega)).1 (by omega)).le (by simp only [wx]; omega) (by simp only [cx]; omega)
    · refine .of (tag := s) (b := false) hd (by simp [atI_0]) (by rcases hs with q | q <;> subst q <;> simp) (by rcases hs with q | q <;> subst q <;> simp) (by rcases hs with q | q <;> subst q <;> simp) fun m n ps hm hp hn => ?_
      simp only [cx] at hn
      exact (ex_max hs (by omega) h3 (by omega) hp (fun n1 ps1 h1 hp1 e he => (ex_both dep e (by omega) (hes e he) (m - 1) n1 ps1 (by omega) hp1 (by omega)).1)).le (by simp only [wx]; omega) (by simp only [cx]; omega)
    · have A := ex_both dep a (by omega) ha
      refine .of (tag := "clip") (b := false) hd (by simp [atI_0]) (by simp) (by simp) (by simp) fun m n ps hm hp hn => ?_
      simp only [cx] at hn
      exact (ex_clip (by omega) hlo hhi (A (m - 1) n ps (by omega) hp (by omega)).1 (by omega)).le (by simp only [wx]; omega) (by simp only [cx]; omega)
end
end K44

/-! K44c -/
namespace K44
open PySem PySem.Spec PyProof.Rows L2 Kn
@[simp] theorem cq_most_not : gEq (.str "most") (.str "not") = some (.val (.bl false)) := by kernel_rfl
@[simp] theorem cq_most_same : gEq (.str "most") (.str "same") = some (.val (.bl false)) := by kernel_rfl
@[simp] theorem cq_most_most : gEq (.str "most") (.str "most") = some (.val (.bl true)) := by kernel_rfl
@[simp] theorem cq_most_less : gEq (.str "most") (.str "less") = some (.val (.bl false)) := by kernel_rfl
@[simp] theorem cq_most_and : gEq (.str "most") (.str "and") = some (.val (.bl false)) := by kernel_rfl
@[simp] theorem cq_most_or : gEq (.str "most") (.str "or") = some (.val (.bl false)) := by kernel_rfl
@[simp] theorem cn_most_same : gNe (.str "most") (.str "same") = some (.val (.bl true)) := by kernel_rfl
@[simp] theorem ci_most_yes : gIn (.str "most") (.tup [.str "yes", .str "no"]) = some (.val (.bl false)) := by kernel_rfl
@[simp] theorem ci_most_most : gIn (.str "most") (.tup [.str "most", .str "less", .str "same"]) = some (.val (.bl true)) := by kernel_rfl
@[simp] theorem ci_most_and : gIn (.str "most") (.tup [.str "and", .str "or"]) = some (.val (.bl false)) := by kernel_rfl
@[simp] theorem cq_less_not : gEq (.str "less") (.str "not") = some (.val (.bl false)) := by kernel_rfl
@[simp] theorem cq_less_same : gEq (.str "less") (.str "same") = some (.val (.bl false)) := by kernel_rfl
@[simp] theorem cq_less_most : gEq (.str "less") (.str "most") = some (.val (.bl false)) := by kernel_rfl
@[simp] theorem cq_less_less : gEq (.str "less") (.str "less") = some (.val (.bl true)) := by kernel_rfl
@[simp] theorem cq_less_and : gEq (.str "less") (.str "and") = some (.val (.bl false)) := by kernel_rfl
@[simp] theorem cq_less_or : gEq (.str "less") (.str "or") = some (.val (.bl false)) := by kernel_rfl
@[simp] theorem cn_less_same : gNe (.str "less") (.str "same") = some (.val (.bl true)) := by kernel_rfl
@[simp] theorem ci_less_yes : gIn (.str "less") (.tup [.str "yes", .str "no"]) = some (.val (.bl false)) := by kernel_rfl
@[simp] theorem ci_less_most : gIn (.str "less") (.tup [.str "most", .str "less", .str "same"]) = some (.val (.bl true)) := by kernel_rfl
@[simp] theorem ci_less_and : gIn (.str "less") (.tup [.str "and", .str "or"]) = some (.val (.bl false)) := by kernel_rfl
@[simp] theorem cq_same_not : gEq (.str "same") (.str "not") = some (.val (.bl false)) := by kernel_rfl
@[simp] theorem cq_same_same : gEq (.str "same") (.str "same") = some (.val (.bl true)) := by kernel_rfl
@[simp] theorem cq_same_most : gEq (.str "same") (.str "most") = some (.val (.bl false)) := by kernel_rfl
@[simp] theorem cq_same_less : gEq (.str "same") (.str "less") = some (.val (.bl false)) := by kernel_rfl
@[simp] theorem cq_same_and : gEq (.str "same") (.str "and") = some (.val (.bl false)) := by kernel_rfl
@[simp] theorem cq_same_or : gEq (.str "same") (.str "or") = some (.val (.bl false)) := by kernel_rfl
@[simp] theorem cn_same_same : gNe (.str "same") (.str "same") = some (.val (.bl false)) := by kernel_rfl
@[simp] theorem ci_same_yes : gIn (.str "same") (.tup [.str "yes", .str "no"]) = some (.val (.bl false)) := by kernel_rfl
@[simp] theorem ci_same_most : gIn (.str "same") (.tup [.str "most", .str "less", .str "same"]) = some (.val (.bl true)) := by kernel_rfl
@[simp] theorem ci_same_and : gIn (.str "same") (.tup [.str "and", .str "or"]) = some (.val (.bl false)) := by kernel_rfl
@[simp] theorem cq_not_not : gEq (.str "not") (.str "not") = some (.val (.bl true)) := by kernel_rfl
@[simp] theorem cq_not_same : gEq (.str "not") (.str "same") = some (.val (.bl false)) := by kernel_rfl
@[simp] theorem cq_not_most : gEq (.str "not") (.str "most") = some (.val (.bl false)) := by kernel_rfl
@[simp] theorem cq_not_less : gEq (.str "not") (.str "less") = some (.val (.bl false)) := by kernel_rfl
@[simp] theorem cq_not_and : gEq (.str "not") (.str "and") = some (.val (.bl false)) := by kernel_rfl
@[simp] theorem cq_not_or : gEq (.str "not") (.str "or") = some (.val (.bl false)) := by kernel_rfl
@[simp] theorem cn_not_same : gNe (.str "not") (.str "same") = some (.val (.bl true)) := by kernel_rfl
@[simp] theorem ci_not_yes : gIn (.str "not") (.tup [.str "yes", .str "no"]) = some (.val (.bl false)) := by kernel_rfl
@[simp] theorem ci_not_most : gIn (.str "not") (.tup [.str "most", .str "less", .str "same"]) = some (.val (.bl false)) := by kernel_rfl
@[simp] theorem ci_not_and : gIn (.str "not") (.tup [.str "and", .str "or"]) = some (.val (.bl false)) := by kernel_rfl
@[simp] theorem cq_and_not : gEq (.str "and") (.str "not") = some (.val (.bl false)) := by kernel_rfl
@[simp] theorem cq_and_same : gEq (.str "and") (.str "same") = some (.val (.bl false)) := by kernel_rfl
@[simp] theorem cq_and_most : gEq (.str "and") (.str "most") = some (.val (.bl false)) := by kernel_rfl
@[simp] theorem cq_and_less : gEq (.str "and") (.str "less") = some (.val (.bl false)) := by kernel_rfl
@[simp] theorem cq_and_and : gEq (.str "and") (.str "and") = some (.val (.bl true)) := by kernel_rfl
@[simp] theorem cq_and_or : gEq (.str "and") (.str "or") = some (.val (.bl false)) := by kernel_rfl
@[simp] theorem cn_and_same : gNe (.str "and") (.str "same") = some (.val (.bl true)) := by kernel_rfl
@[simp] theorem ci_and_yes : gIn (.str "and") (.tup [.str "yes", .str "no"]) = some (.val (.bl false)) := by kernel_rfl
@[simp] theorem ci_and_most : gIn (.str "and") (.tup [.str "most", .str "less", .str "same"]) = some (.val (.bl false)) := by kernel_rfl
@[simp] theorem ci_and_and : gIn (.str "and") (.tup [.str "and", .str "or"]) = some (.val (.bl true)) := by kernel_rfl
@[simp] theorem cq_or_not : gEq (.str "or") (.str "not") = some (.val (.bl false)) := by kernel_rfl
@[simp] theorem cq_or_same : gEq (.str "or") (.str "same") = some (.val (.bl false)) := by kernel_rfl
@[simp] theorem cq_or_most : gEq (.str "or") (.str "most") = some (.val (.bl false)) := by kernel_rfl
@[simp] theorem cq_or_less : gEq (.str "or") (.str "less") = some (.val (.bl false)) := by kernel_rfl
@[simp] theorem cq_or_and : gEq (.str "or") (.str "and") = some (.val (.bl false)) := by kernel_rfl
@[simp] theorem cq_or_or : gEq (.str "or") (.str "or") = some (.val (.bl true)) := by kernel_rfl
@[simp] theorem cn_or_same : gNe (.str "or") (.str "same") = some (.val (.bl true)) := by kernel_rfl
@[simp] theorem ci_or_yes : gIn (.str "or") (.tup [.str "yes", .str "no"]) = some (.val (.bl false)) := by kernel_rfl
@[simp] theorem ci_or_most : gIn (.str "or") (.tup [.str "most", .str "less", .str "same"]) = some (.val (.bl false)) := by kernel_rfl
@[simp] theorem ci_or_and : gIn (.str "or") (.tup [.str "and", .str "or"]) = some (.val (.bl true)) := by kernel_rfl

section
variable {fu : Nat}
def ClO (fu m n k c : Nat) (ps : Slot) (e : D) : Prop := WOut (run fu m 26 [ps, .val e]) ps [.non] k (n + c)
/-- a name that holds a list -/
def LSlot (x : Slot) (w : List D) : Prop := x = .val (.lst w) ∨ x = .own (.lst w)
/-- the two sums of a comparison -/
theorem cmp_par {m n k c : Nat} {ps : Slot} {a b : D} {s : Str} (hA : ExO fu m n k c ps a) (hB : ∀ ps1, PA (n + c) ps1 → ExO fu m (n + c) k c ps1 b) :
    ∃ w1 w2 ps2 x y, LSlot x w1 ∧ LSlot y w2 ∧ sPar [3, 4] (sKCons 1 (sCall 25 (sKCons 2 (sVar 0) (sKCons 0 (sOp2 gIdx (sVar 1) (sC (.int 1))) sKNil))) (sKCons 1 (sCall 25 (sKCons 2 (sVar 0) (sKCons 0 (sOp2 gIdx (sVar 1) (sC (.int 2))) sKNil))) sKNil)) (CC fu m)
      [ps, .val (.tup [.str s, a, b]), .val (.str s), .non, .non, .non] = .nx [ps2, .val (.tup [.str s, a, b]), .val (.str s), x, y, .non] ∧ Wds k w1 ∧ Wds k w2 ∧ Sm2 ps ps2 ∧ PA (n + c + c) ps2 := by
  obtain ⟨r, w1, ps1, e1, hr, hw1, s1, p1⟩ := hA
  obtain ⟨r2, w2, ps2, e2, hr2, hw2, s2, p2⟩ := hB ps1 p1
  have c1 := callPen (C := CC fu m) (i := 25) (g := sKCons 0 (sOp2 gIdx (sVar 1) (sC (.int 1))) sKNil) (S := [.val (.tup [.str s, a, b]), .val (.str s), .non, .non, .non]) (S1 := [.val (.tup [.str s, a, b]), .val (.str s), .non, .non, .non]) (ds := [a]) s1.refl s1 (by simp [atI_1]) e1 rfl hr.vf
  have c2 := callPen (C := CC fu m) (i := 25) (g := sKCons 0 (sOp2 gIdx (sVar 1) (sC (.int 2))) sKNil) (S := [.val (.tup [.str s, a, b]), .val (.str s), .non, .non, .non]) (S1 := [.val (.tup [.str s, a, b]), .val (.str s), .non, .non, .non]) (ds := [b]) s2.refl s2 (by simp [atI_2]) e2 rfl hr2.vf
  rcases hr with q | q <;> subst q <;> rcases hr2 with q | q <;> subst q
  · exact ⟨w1, w2, ps2, .val (.lst w1), .val (.lst w2), .inl rfl, .inl rfl, by simp [-x_sCall, c1, c2], hw1, hw2, s1.trans s2, p2⟩
  · exact ⟨w1, w2, ps2, .val (.lst w1), .own (.lst w2), .inl rfl, .inr rfl, by simp [-x_sCall, c1, c2], hw1, hw2, s1.trans s2, p2⟩
  · exact ⟨w1, w2, ps2, .own (.lst w1), .val (.lst w2), .inr rfl, .inl rfl, by simp [-x_sCall, c1, c2], hw1, hw2, s1.trans s2, p2⟩
  · exact ⟨w1, w2, ps2, .own (.lst w1), .own (.lst w2), .inr rfl, .inr rfl, by simp [-x_sCall, c1, c2], hw1, hw2, s1.trans s2, p2⟩
end
end K44

/-! K44d -/
namespace K44
open PySem PySem.Spec PyProof.Rows L2 Kn
section
variable {fu : Nat}
theorem Wds.mid {k : Nat} {u v : List D} {x : D} (h1 : Wds k u) (h2 : Wds k v) (hx : IsWd x) : Wds (k + k + 1) ((u ++ [x]) ++ v) := by
  have q := (h1.app (Wds.one hx)).app h2
  exact ⟨q.1, by have := q.2; omega⟩
/-- a comparison's words -/
theorem cl_cmp {m n k c : Nat} {ps : Slot} {a b : D} {s : Str} (hs : s = Str.ofString "most" ∨ s = Str.ofString "less" ∨ s = Str.ofString "same") (hm : 3 ≤ m) (hn : n + c + c < 700000000) (hk : k < 100000) (hA : ExO fu (m - 1) n k c ps a) (hB : ∀ ps1, PA (n + c) ps1 → ExO fu (m - 1) (n + c) k c ps1 b) : ClO fu m n (k + k + 1) (c + c + 1) ps (.tup [.str s, a, b]) := by
  obtain ⟨w1, w2, ps2, x, y, hx, hy, e, hw1, hw2, s1, p2⟩ := cmp_par (s := s) hA hB
  have l1 := hw1.2
  have l2 := hw2.2
  have z1 : w1.length + 1 ≤ 16777216 := by omega
  have z2 : w1.length + 1 + w2.length ≤ 16777216 := by omega
  have z3 : w2.length + 1 ≤ 16777216 := by omega
  have z4 : w2.length + 1 + w1.length ≤ 16777216 := by omega
  have g : ∀ q : D, IsWd q → run fu m 26 [ps, .val (.tup [.str s, a, b])] = .ok (.fr (.lst ((w1 ++ [q]) ++ w2))) (keepBor ps2 :: [.non]) → ClO fu m n (k + k + 1) (c + c + 1) ps (.tup [.str s, a, b]) :=
    fun q hq e => ⟨_, _, ps2, e, .inr rfl, hw1.mid hw2 hq, s1, p2.le (by omega)⟩
  rcases p2 with q | ⟨p, q, hp⟩
  · subst q
    have hN : gNotN .non .non = some (.val (.bl false)) := rfl
    rcases hs with q | q | q <;> subst q
    · refine g _ w_le ?_
      rw [run_m (F := ⟨2, 6, F__law_claim_words⟩) rfl (by omega), bodyRun_eq]
      rcases hx with q | q <;> subst q <;> rcases hy with q | q <;> subst q <;> simp [-x_sCall, -x_sPar, F__law_claim_words, atI_0, e, hN, gAdd, z1, z2]
    · refine g _ w_lt ?_
      rw [run_m (F := ⟨2, 6, F__law_claim_words⟩) rfl (by omega), bodyRun_eq]
      rcases hx with q | q <;> subst q <;> rcases hy with q | q <;> subst q <;> simp [-x_sCall, -x_sPar, F__law_claim_words, atI_0, e, hN, gAdd, z1, z2]
    · refine g _ w_eq ?_
      rw [run_m (F := ⟨2, 6, F__law_claim_words⟩) rfl (by omega), bodyRun_eq]
      rcases hx with q | q <;> subst q <;> rcases hy with q | q <;> subst q <;> simp [-x_sCall, -x_sPar, F__law_claim_words, atI_0, e, hN, gAdd, z1, z2]
  · subst q
    have hN := pen_isN hp
    rcases hs with q | q | q <;> subst q
    · skip
      obtain ⟨z, p1, e1, _, _, hp1⟩ := dr (fu := fu) (m := m - 1) (by omega) (n + c + c) p 3 hp (by omega) (by decide) (by decide)
      by_cases hz : z = 0
      · subst hz
        refine ⟨.fr (.lst ((w2 ++ [.str ">="]) ++ w1)), _, .bor p1, ?_, .inr rfl, hw2.mid hw1 w_ge, s1.trans (.bor _ _), .inr ⟨p1, rfl, by rw [show n + (c + c + 1) = n + c + c + 1 by omega]; exact hp1⟩⟩
        rw [run_m (F := ⟨2, 6, F__law_claim_words⟩) rfl (by omega), bodyRun_eq]
        rcases hx with q | q <;> subst q <;> rcases hy with q | q <;> subst q <;> simp [-x_sPar, F__law_claim_words, atI_0, e, hN, e1, gAdd, z1, z2, z3, z4]
      · have hz' : (z == 0) = false := by simpa using hz
        refine ⟨.fr (.lst ((w1 ++ [.str "<="]) ++ w2)), _, .bor p1, ?_, .inr rfl, hw1.mid hw2 w_le, s1.trans (.bor _ _), .inr ⟨p1, rfl, by rw [show n + (c + c + 1) = n + c + c + 1 by omega]; exact hp1⟩⟩
        rw [run_m (F := ⟨2, 6, F__law_claim_words⟩) rfl (by omega), bodyRun_eq]
        rcases hx with q | q <;> subst q <;> rcases hy with q | q <;> subst q <;> simp [-x_sPar, F__law_claim_words, atI_0, e, hN, e1, hz', gAdd, z1, z2, z3, z4]
    · skip
      obtain ⟨z, p1, e1, _, _, hp1⟩ := dr (fu := fu) (m := m - 1) (by omega) (n + c + c) p 3 hp (by omega) (by decide) (by decide)
      by_cases hz : z = 0
      · subst hz
        refine ⟨.fr (.lst ((w2 ++ [.str ">"]) ++ w1)), _, .bor p1, ?_, .inr rfl, hw2.mid hw1 w_gt, s1.trans (.bor _ _), .inr ⟨p1, rfl, by rw [show n + (c + c + 1) = n + c + c + 1 by omega]; exact hp1⟩⟩
        rw [run_m (F := ⟨2, 6, F__law_claim_words⟩) rfl (by omega), bodyRun_eq]
        rcases hx with q | q <;> subst q <;> rcases hy with q | q <;> subst q <;> simp [-x_sPar, F__law_claim_words, atI_0, e, hN, e1, gAdd, z1, z2, z3, z4]
      · have hz' : (z == 0) = false := by simpa using hz
        refine ⟨.fr (.lst ((w1 ++ [.str "<"]) ++ w2)), _, .bor p1, ?_, .inr rfl, hw1.mid hw2 w_lt, s1.trans (.bor _ _), .inr ⟨p1, rfl, by rw [show n + (c + c + 1) = n + c + c + 1 by omega]; exact hp1⟩⟩
        rw [run_m (F := ⟨2, 6, F__law_claim_words⟩) rfl (by omega), bodyRun_eq]
        rcases hx with q | q <;> subst q <;> rcases hy with q | q <;> subst q <;> simp [-x_sPar, F__law_claim_words, atI_0, e, hN, e1, hz', gAdd, z1, z2, z3, z4]
    · refine g _ w_eq ?_
      rw [run_m (F := ⟨2, 6, F__law_claim_words⟩) rfl (by omega), bodyRun_eq]
      rcases hx with q | q <;> subst q <;> rcases hy with q | q <;> subst q <;> simp [-x_sPar, F__law_claim_words, atI_0, e, hN, gAdd, z1, z2, z3, z4]
end
end K44

/-! K44B1 -/
namespace K44
open PySem PySem.Spec PyProof.Rows L2 Kn
section
variable {fu : Nat}
theorem ClO.le {m n k c k' c' : Nat} {ps : Slot} {e : D} (h : ClO fu m n k c ps e) (hk : k ≤ k') (hc : c ≤ c') : ClO fu m n k' c' ps e := WOut.le h hk (by omega)
/-- a claim's words in brackets -/
theorem brack_call {m n k c : Nat} {ps : Slot} {e : D} {S : List Slot} {gx gn : Sm} {b : Bool} (hm : 2 ≤ m) (hC : ClO fu m n k c ps e) (hk : k < 100000) (hn : n + c < 700000000)
    (hx : ∀ ps', Sm2 ps ps' → gx (CC fu m) (ps' :: S) = .ok (.val e) (ps' :: S)) (hb : ∀ ps', Sm2 ps ps' → gn (CC fu m) (ps' :: S) = .ok (.val (.bl b)) (ps' :: S)) :
    ∃ r ws ps2, sCall 23 (sKCons 2 (sVar 0) (sKCons 0 (sCall 26 (sKCons 2 (sVar 0) (sKCons 0 gx sKNil))) (sKCons 0 (sC (.str "[")) (sKCons 0 (sC (.str "]")) (sKCons 0 gn sKNil))))) (CC fu m) (ps :: S) = .ok r (ps2 :: S) ∧ ListR r ws ∧ Wds (k + 2) ws ∧ Sm2 ps ps2 ∧ PA (n + c + 1) ps2 := by
  obtain ⟨r, ws, ps1, e1, hr, hw, s1, p1⟩ := hC
  obtain ⟨r2, ws2, ps2, e2, hr2, hw2, s2, p2⟩ := brack23 (fu := fu) (m := m) hm p1 (by omega) b w_lbr w_rbr hw (by omega)
  have c1 := callPen (C := CC fu m) (i := 26) (g := sKCons 0 gx sKNil) (S := S) (S1 := S) (ds := [e]) s1.refl s1 (by simp [hx ps s1.refl]) e1 rfl hr.vf
  have c2 := callPen (C := CC fu m) (i := 23) (g := (sKCons 0 (sCall 26 (sKCons 2 (sVar 0) (sKCons 0 gx sKNil))) (sKCons 0 (sC (.str "[")) (sKCons 0 (sC (.str "]")) (sKCons 0 gn sKNil))))) (S := S) (S1 := S) (ds := [.lst ws, .str "[", .str "]", .bl b]) s1 s2 (by
    rcases hr with q | q <;> subst q <;> simp [-x_sCall, c1, hb ps1 s1]) e2 rfl hr2.vf
  exact ⟨r2, ws2, ps2, c2, hr2, hw2, s1.trans s2, p2⟩
/-- what is asked of a claim within: its tag -/
structure Tag (d : D) (t : Str) (b1 b2 b3 b4 : Bool) : Prop where
  h0 : gIdx d (.int 0) = some (.val (.str t))
  h1 : gEq (.str t) (.str "same") = some (.val (.bl b1))
  h2 : gIn (.str t) (.tup [.str "and", .str "or"]) = some (.val (.bl b2))
  h3 : gEq (.str t) (.str "or") = some (.val (.bl b3))
  h4 : gEq (.str t) (.str "and") = some (.val (.bl b4))
theorem tag_of : ∀ (n : Nat) (d : D), IsCl n d → ∃ t b1 b2 b3 b4, Tag d t b1 b2 b3 b4 ∧ (b1 = true → ∃ a b, IsEx 4 a ∧ IsEx 4 b ∧ d = .tup [.str "same", a, b])
  | 0, d, h => by
    obtain ⟨s, a, b, hs, ha, hb, rfl⟩ := h
    rcases hs with q | q | q <;> subst q
    · exact ⟨Str.ofString "most", false, false, false, false, ⟨by simp [atI_0], by simp, by simp, by simp, by simp⟩, fun h => nomatch h⟩
    · exact ⟨Str.ofString "less", false, false, false, false, ⟨by simp [atI_0], by simp, by simp, by simp, by simp⟩, fun h => nomatch h⟩
    · exact ⟨Str.ofString "same", true, false, false, false, ⟨by simp [atI_0], by simp, by simp, by simp, by simp⟩, fun _ => ⟨a, b, ha, hb, rfl⟩⟩
  | n + 1, d, h => by
    rcases h with h | ⟨a, _, rfl⟩ | ⟨s, a, b, hs, _, _, rfl⟩
    · exact tag_of n d h
    · exact ⟨Str.ofString "not", false, false, false, false, ⟨by simp [atI_0], by simp, by simp, by simp, by simp⟩, fun h => nomatch h⟩
    · rcases hs with q | q <;> subst q
      · exact ⟨Str.ofString "and", false, true, false, true, ⟨by simp [atI_0], by simp, by simp, by simp, by simp⟩, fun h => nomatch h⟩
      · exact ⟨Str.ofString "or", false, true, true, false, ⟨by simp [atI_0], by simp, by simp, by simp, by simp⟩, fun h => nomatch h⟩
theorem cl_not {m n k c kx kc : Nat} {ps : Slot} {e : D} {t : Str} {b1 b2 b3 b4 : Bool} (hm : 3 ≤ m) (hp : PA n ps) (hk : k < 90000) (hn : n + c + 10 < 600000000) (ht : Tag e t b1 b2 b3 b4) (hkx : kx + kx + 1 ≤ k + 3) (hkc : kc + kc ≤ c + 1)
    (hs : b1 = true → ∃ a b, gIdx e (.int 1) = some (.val a) ∧ gIdx e (.int 2) = some (.val b) ∧ ∀ n1 ps1, n1 ≤ n + 1 + kc → PA n1 ps1 → ExO fu (m - 1) n1 kx kc ps1 a ∧ ExO fu (m - 1) n1 kx kc ps1 b)
    (hC : ∀ n1 ps1, n1 ≤ n + 1 → PA n1 ps1 → ClO fu (m - 1) n1 k c ps1 e) : ClO fu m n (k + 3) (c + 2) ps (.tup [.str "not", e]) := by
  have main : ∀ n1 ps1, n1 ≤ n + 1 → PA n1 ps1 → ∃ r ws ps2, sCall 23 (sKCons 2 (sVar 0) (sKCons 0 (sCall 26 (sKCons 2 (sVar 0) (sKCons 0 (sVar 5) sKNil))) (sKCons 0 (sC (.str "[")) (sKCons 0 (sC (.str "]")) (sKCons 0 (sOp2 gIn (sOp2 gIdx (sVar 5) (sC (.int 0))) (sTup (sCons (sC (.str "and")) (sCons (sC (.str "or")) sNil)))) sKNil))))) (CC fu (m - 1)) [ps1, .val (.tup [.str "not", e]), .val (.str "not"), .non, .non, .val e] = .ok r [ps2, .val (.tup [.str "not", e]), .val (.str "not"), .non, .non, .val e] ∧ ListR r ws ∧ Wds (k + 2) ws ∧ Sm2 ps1 ps2 ∧ PA (n1 + c + 1) ps2 := fun n1 ps1 h1 hp1 =>
    brack_call (S := [.val (.tup [.str "not", e]), .val (.str "not"), .non, .non, .val e]) (by omega) (hC n1 ps1 h1 hp1) (by omega) (by omega) (fun ps' _ => by simp) (b := b2) (fun ps' _ => by simp [ht.h0, ht.h2])
  have h0 := ht.h0
  have h1 := ht.h1
  rcases hp with q | ⟨p, q, hp⟩
  · subst q
    have hN : gNotN .non .non = some (.val (.bl false)) := rfl
    obtain ⟨r, ws, ps2, e1, hr, hw, s1, p1⟩ := main n (.val .non) (by omega) (.inl rfl)
    have z1 : 1 + ws.length ≤ 16777216 := by have := hw.2; omega
    have z2 : ws.length + 1 ≤ 16777216 := by omega
    refine ⟨.fr (.lst (.str "not" :: ws)), _, ps2, ?_, .inr rfl, Wds.cons w_not hw, s1, p1.le (by omega)⟩
    rw [run_m (F := ⟨2, 6, F__law_claim_words⟩) rfl (by omega), bodyRun_eq]
    rcases hr with q | q <;> subst q <;> simp [-x_sCall, F__law_claim_words, atI_0, atI_1, hN, e1, gAdd, z1, z2]
  · subst q
    have hN := pen_isN hp
    cases b1 with
    | false =>
      obtain ⟨r, ws, ps2, e1, hr, hw, s1, p1⟩ := main n (.bor p) (by omega) (.inr ⟨p, rfl, hp⟩)
      have z1 : 1 + ws.length ≤ 16777216 := by have := hw.2; omega
      have z2 : ws.length + 1 ≤ 16777216 := by omega
      refine ⟨.fr (.lst (.str "not" :: ws)), _, ps2, ?_, .inr rfl, Wds.cons w_not hw, s1, p1.le (by omega)⟩
      rw [run_m (F := ⟨2, 6, F__law_claim_words⟩) rfl (by omega), bodyRun_eq]
      rcases hr with q | q <;> subst q <;> simp [-x_sCall, F__law_claim_words, atI_0, atI_1, hN, h0, h1, e1, gAdd, z1, z2]
    | true =>
      obtain ⟨z, p1, e0, _, _, hp1⟩ := dr (fu := fu) (m := m - 1) (by omega) n p 2 hp (by omega) (by decide) (by decide)
      have d0 : sCall 7 (sKCons 2 (sVar 0) (sKCons 0 (sC (.int 2)) sKNil)) (CC fu (m - 1)) [.bor p, .val (.tup [.str "not", e]), .val (.str "not"), .non, .non, .val e] = .ok (.val (.int z)) [.bor p1, .val (.tup [.str "not", e]), .val (.str "not"), .non, .non, .val e] := by simp [e0]
      by_cases hz : z = 0
      · subst hz
        obtain ⟨a, b, ga, gb, hab⟩ := hs rfl
        obtain ⟨r, ws, ps2, e1, hr, hw, s1, q1⟩ := (hab (n + 1) (.bor p1) (by omega) (.inr ⟨p1, rfl, hp1⟩)).1
        obtain ⟨r2, ws2, ps3, e2, hr2, hw2, s2, q2⟩ := (hab (n + 1 + kc) ps2 (by omega) q1).2
        have l1 := hw.2
        have l2 := hw2.2
        have z1 : ws.length + 1 ≤ 16777216 := by omega
        have z2 : ws.length + 1 + ws2.length ≤ 16777216 := by omega
        have c1 := callPen (C := CC fu (m - 1)) (i := 25) (g := sKCons 0 (sOp2 gIdx (sVar 5) (sC (.int 1))) sKNil) (S := [.val (.tup [.str "not", e]), .val (.str "not"), .non, .non, .val e]) (S1 := [.val (.tup [.str "not", e]), .val (.str "not"), .non, .non, .val e]) (ds := [a]) s1.refl s1 (by simp [ga]) e1 rfl hr.vf
        have c2 := callPen (C := CC fu (m - 1)) (i := 25) (g := sKCons 0 (sOp2 gIdx (sVar 5) (sC (.int 2))) sKNil) (S := [.val (.tup [.str "not", e]), .val (.str "not"), .non, .non, .val e]) (S1 := [.val (.tup [.str "not", e]), .val (.str "not"), .non, .non, .val e]) (ds := [b]) s2.refl s2 (by simp [gb]) e2 rfl hr2.vf
        have W := hw.mid hw2 w_ne
        refine ⟨.fr (.lst ((ws ++ [.str "!="]) ++ ws2)), _, ps3, ?_, .inr rfl, ⟨W.1, by have := W.2; omega⟩, (Sm2.bor p p1).trans (s1.trans s2), q2.le (by omega)⟩
        rw [run_m (F := ⟨2, 6, F__law_claim_words⟩) rfl (by omega), bodyRun_eq]
        rcases hr with q | q <;> subst q <;> rcases hr2 with q | q <;> subst q <;> simp [-x_sCall, F__law_claim_words, atI_0, atI_1, hN, h0, h1, d0, c1, c2, gAdd, z1, z2]
      · have hz' : (z == 0) = false := by simpa using hz
        obtain ⟨r, ws, ps2, e1, hr, hw, s1, q1⟩ := main (n + 1) (.bor p1) (by omega) (.inr ⟨p1, rfl, hp1⟩)
        have z1 : 1 + ws.length ≤ 16777216 := by have := hw.2; omega
        have z2 : ws.length + 1 ≤ 16777216 := by omega
        refine ⟨.fr (.lst (.str "not" :: ws)), _, ps2, ?_, .inr rfl, Wds.cons w_not hw, (Sm2.bor p p1).trans s1, q1.le (by omega)⟩
        rw [run_m (F := ⟨2, 6, F__law_claim_words⟩) rfl (by omega), bodyRun_eq]
        rcases hr with q | q <;> subst q <;> simp [-x_sCall, F__law_claim_words, atI_0, atI_1, hN, h0, h1, d0, hz', e1, gAdd, z1, z2]
theorem cl_two {m n k c : Nat} {ps : Slot} {a b : D} {s ta tb : Str} {a1 a2 a3 a4 b1 b2 b3 b4 : Bool} (hs : s = Str.ofString "and" ∨ s = Str.ofString "or") (hm : 3 ≤ m) (hk : k < 90000) (hn : n + c + c + 10 < 600000000) (hta : Tag a ta a1 a2 a3 a4) (htb : Tag b tb b1 b2 b3 b4)
    (hA : ClO fu (m - 1) n k c ps a) (hB : ∀ ps1, PA (n + c + 1) ps1 → ClO fu (m - 1) (n + c + 1) k c ps1 b) : ClO fu m n (k + k + 5) (c + c + 2) ps (.tup [.str s, a, b]) := by
  have hsw : IsWd (.str s) := by rcases hs with q | q <;> subst q; exact w_and; exact w_or
  obtain ⟨x, hx⟩ : ∃ x, sAndV (sOp2 gEq (sVar 2) (sC (.str "and"))) (sOp2 gEq (sOp2 gIdx (sOp2 gIdx (sVar 1) (sC (.int 1))) (sC (.int 0))) (sC (.str "or"))) = x := ⟨_, rfl⟩
  obtain ⟨y, hy⟩ : ∃ y, sOrV (sOp2 gEq (sOp2 gIdx (sOp2 gIdx (sVar 1) (sC (.int 2))) (sC (.int 0))) (sC (.str "or"))) (sAndV (sOp2 gEq (sVar 2) (sC (.str "and"))) (sOp2 gEq (sOp2 gIdx (sOp2 gIdx (sVar 1) (sC (.int 2))) (sC (.int 0))) (sC (.str "and")))) = y := ⟨_, rfl⟩
  have Ha : ∃ q, ∀ ps', x (CC fu (m - 1)) [ps', .val (.tup [.str s, a, b]), .val (.str s), .non, .non, .non] = .ok (.val (.bl q)) [ps', .val (.tup [.str s, a, b]), .val (.str s), .non, .non, .non] := by
    subst hx
    rcases hs with q | q <;> subst q
    · exact ⟨a3, fun ps' => by simp [atI_1, hta.h0, hta.h3]⟩
    · exact ⟨false, fun ps' => by simp⟩
  obtain ⟨q1, Ha⟩ := Ha
  obtain ⟨r, ws, ps1, e1, hr, hw, s1, p1⟩ := brack_call (gx := sOp2 gIdx (sVar 1) (sC (.int 1))) (gn := x) (S := [.val (.tup [.str s, a, b]), .val (.str s), .non, .non, .non]) (by omega) hA (by omega) (by omega) (fun ps' _ => by simp [atI_1]) (fun ps' _ => Ha ps')
  have fin : ∀ s3 : Slot, LSlot s3 ws → ∃ r2 ws2 ps2, sCall 23 (sKCons 2 (sVar 0) (sKCons 0 (sCall 26 (sKCons 2 (sVar 0) (sKCons 0 (sOp2 gIdx (sVar 1) (sC (.int 2))) sKNil))) (sKCons 0 (sC (.str "[")) (sKCons 0 (sC (.str "]")) (sKCons 0 y sKNil))))) (CC fu (m - 1)) [ps1, .val (.tup [.str s, a, b]), .val (.str s), s3, .non, .non] = .ok r2 [ps2, .val (.tup [.str s, a, b]), .val (.str s), s3, .non, .non] ∧ ListR r2 ws2 ∧ Wds (k + 2) ws2 ∧ Sm2 ps1 ps2 ∧ PA (n + c + 1 + c + 1) ps2 := by
    intro s3 h3
    have Hb : ∃ q, ∀ ps', y (CC fu (m - 1)) [ps', .val (.tup [.str s, a, b]), .val (.str s), s3, .non, .non] = .ok (.val (.bl q)) [ps', .val (.tup [.str s, a, b]), .val (.str s), s3, .non, .non] := by
      subst hy
      cases b3 with
      | true => exact ⟨true, fun ps' => by simp [atI_2, htb.h0, htb.h3]⟩
      | false =>
        rcases hs with q | q <;> subst q
        · exact ⟨b4, fun ps' => by simp [atI_2, htb.h0, htb.h3, htb.h4]⟩
        · exact ⟨false, fun ps' => by simp [atI_2, htb.h0, htb.h3]⟩
    obtain ⟨q2, Hb⟩ := Hb
    exact brack_call (gx := sOp2 gIdx (sVar 1) (sC (.int 2))) (gn := y) (S := [.val (.tup [.str s, a, b]), .val (.str s), s3, .non, .non]) (by omega) (hB ps1 p1) (by omega) (by omega) (fun ps' _ => by simp [atI_2]) (fun ps' _ => Hb ps')
  have l1 := hw.2
  have go : ∀ (s3 : Slot) (d : D), (∃ r2 ws2 ps2, sCall 23 (sKCons 2 (sVar 0) (sKCons 0 (sCall 26 (sKCons 2 (sVar 0) (sKCons 0 (sOp2 gIdx (sVar 1) (sC (.int 2))) sKNil))) (sKCons 0 (sC (.str "[")) (sKCons 0 (sC (.str "]")) (sKCons 0 y sKNil))))) (CC fu (m - 1)) [ps1, .val (.tup [.str s, a, b]), .val (.str s), s3, .non, .non] = .ok r2 [ps2, .val (.tup [.str s, a, b]), .val (.str s), s3, .non, .non] ∧ ListR r2 ws2 ∧ Wds (k + 2) ws2 ∧ Sm2 ps1 ps2 ∧ PA (n + c + 1 + c + 1) ps2) → (∀ r2 ws2 ps2, ListR r2 ws2 → Wds (k + 2) ws2 → sCall 23 (sKCons 2 (sVar 0) (sKCons 0 (sCall 26 (sKCons 2 (sVar 0) (sKCons 0 (sOp2 gIdx (sVar 1) (sC (.int 2))) sKNil))) (sKCons 0 (sC (.str "[")) (sKCons 0 (sC (.str "]")) (sKCons 0 y sKNil))))) (CC fu (m - 1)) [ps1, .val (.tup [.str s, a, b]), .val (.str s), s3, .non, .non] = .ok r2 [ps2, .val (.tup [.str s, a, b]), .val (.str s), s3, .non, .non] → run fu m 26 [ps, .val (.tup [.str s, a, b])] = .ok (.fr (.lst ((ws ++ [.str s]) ++ ws2))) (keepBor ps2 :: [.non])) → ClO fu m n (k + k + 5) (c + c + 2) ps (.tup [.str s, a, b]) := by
    rintro s3 d ⟨r2, ws2, ps2, e2, hr2, hw2, s2, p2⟩ h
    have W := hw.mid hw2 hsw
    exact ⟨_, _, ps2, h r2 ws2 ps2 hr2 hw2 e2, .inr rfl, ⟨W.1, by have := W.2; omega⟩, s1.trans s2, p2.le (by omega)⟩
  have zz : ∀ {ws2 : List D}, Wds (k + 2) ws2 → ws.length + 1 ≤ 16777216 ∧ ws.length + 1 + ws2.length ≤ 16777216 ∧ ws.length + (ws2.length + 1) ≤ 16777216 := fun h => by have := h.2; omega
  rcases hr with q | q
  · subst q
    refine go (.val (.lst ws)) .non (fin _ (.inl rfl)) fun r2 ws2 ps2 hr2 hw2 e2 => ?_
    obtain ⟨z1, z2, z3⟩ := zz hw2
    subst hx; subst hy
    rw [run_m (F := ⟨2, 6, F__law_claim_words⟩) rfl (by omega), bodyRun_eq]
    rcases hs with q | q <;> subst q <;> rcases hr2 with q | q <;> subst q <;> simp [-x_sCall, -x_sAndV, -x_sOrV, F__law_claim_words, atI_0, e1, e2, gAdd, z1, z2, z3]
  · subst q
    refine go (.own (.lst ws)) .non (fin _ (.inr rfl)) fun r2 ws2 ps2 hr2 hw2 e2 => ?_
    obtain ⟨z1, z2, z3⟩ := zz hw2
    subst hx; subst hy
    rw [run_m (F := ⟨2, 6, F__law_claim_words⟩) rfl (by omega), bodyRun_eq]
    rcases hs with q | q <;> subst q <;> rcases hr2 with q | q <;> subst q <;> simp [-x_sCall, -x_sAndV, -x_sOrV, F__law_claim_words, atI_0, e1, e2, gAdd, z1, z2, z3]
/-! ### all drawn claims -/
def kc : Nat → Nat
  | 0 => 3849
  | n + 1 => 2 * kc n + 5
def dc : Nat → Nat
  | 0 => 1925
  | n + 1 => 2 * dc n + 2
theorem cl_all : ∀ (dep : Nat) (e : D), dep ≤ 2 → IsCl dep e → ∀ m n ps, dep + 30 ≤ m → PA n ps → n + 20000 < 500000000 + dc 2 - dc dep → ClO fu m n (kc dep) (dc dep) ps e
  | 0, e, _, h, m, n, ps, hm, hp, hn => by
    have x4 : wx 4 = 1924 := rfl
    have x5 : cx 4 = 962 := rfl
    have x6 : kc 0 = 3849 := rfl
    have x7 : dc 0 = 1925 := rfl
    have x8 : dc 2 = 7706 := rfl
    obtain ⟨s, a, b, hs, ha, hb, rfl⟩ := h
    refine (cl_cmp hs (by omega) (by omega) (by omega) (ex_both 4 a (by omega) ha (m - 1) n ps (by omega) hp (by omega)).1 fun ps1 hp1 => (ex_both 4 b (by omega) hb (m - 1) _ ps1 (by omega) hp1 (by omega)).1).le (by omega) (by omega)
  | dep + 1, e, hd, h, m, n, ps, hm, hp, hn => by
    have x4 : wx 4 = 1924 := rfl
    have x5 : cx 4 = 962 := rfl
    have x6 : kc dep ≤ 7703 ∧ 3849 ≤ kc dep := by
      have : dep = 0 ∨ dep = 1 := by omega
      rcases this with q | q <;> subst q <;> decide
    have x7 : dc dep ≤ 3852 ∧ 1925 ≤ dc dep := by
      have : dep = 0 ∨ dep = 1 := by omega
      rcases this with q | q <;> subst q <;> decide
    have x8 : dc 2 = 7706 := rfl
    have x9 : kc (dep + 1) = 2 * kc dep + 5 := rfl
    have x10 : dc (dep + 1) = 2 * dc dep + 2 := rfl
    rcases h with h | ⟨a, ha, rfl⟩ | ⟨s, a, b, hs, ha, hb, rfl⟩
    · exact (cl_all dep e (by omega) h m n ps (by omega) hp (by omega)).le (by omega) (by omega)
    · obtain ⟨t, b1, b2, b3, b4, ht, hsame⟩ := tag_of dep a ha
      refine (cl_not (kx := wx 4) (kc := cx 4) (by omega) hp (by omega) (by omega) ht (by omega) (by omega) (fun q => ?_) (fun n1 ps1 h1 hp1 => cl_all dep a (by omega) ha (m - 1) n1 ps1 (by omega) hp1 (by omega))).le (by omega) (by omega)
      obtain ⟨x, y, hx, hy, rfl⟩ := hsame q
      exact ⟨x, y, by simp [atI_1], by simp [atI_2], fun n1 ps1 h1 hp1 => ⟨(ex_both 4 x (by omega) hx (m - 1) n1 ps1 (by omega) hp1 (by omega)).1, (ex_both 4 y (by omega) hy (m - 1) n1 ps1 (by omega) hp1 (by omega)).1⟩⟩
    · obtain ⟨ta, a1, a2, a3, a4, hta, _⟩ := tag_of dep a ha
      obtain ⟨tb, b1, b2, b3, b4, htb, _⟩ := tag_of dep b hb
      exact (cl_two hs (by omega) (by omega) (by omega) hta htb (cl_all dep a (by omega) ha (m - 1) n ps (by omega) hp (by omega)) (fun ps1 hp1 => cl_all dep b (by omega) hb (m - 1) _ ps1 (by omega) hp1 (by omega))).le (by omega) (by omega)
end
end K44

/-! K44B2 -/
namespace K44
open PySem PySem.Spec PyProof.Rows L2 Kn
section
variable {fu : Nat}
/-! ### the words of a tree -/
def Fr5 (s3 s4 s5 s6 s7 : Slot) : Prop := free s3 = true ∧ free s4 = true ∧ free s5 = true ∧ free s6 = true ∧ free s7 = true
def TStep (C : Cc) (tree : D) (t : Tg) (body : Sg) (Good : D → Prop) (kw kn N : Nat) : Prop := ∀ d n ps acc s3 s4 s5 s6 s7, Good d → PA n ps → n + kn ≤ N → Fr5 s3 s4 s5 s6 s7 → acc.length + kw ≤ 100000 →
  ∃ S1 ws ps' t3 t4 t5 t6 t7, t d [ps, .val tree, .own (.lst acc), s3, s4, s5, s6, s7] = some S1 ∧ body C S1 = .nx [ps', .val tree, .own (.lst (acc ++ ws)), t3, t4, t5, t6, t7] ∧ Fr5 t3 t4 t5 t6 t7 ∧ Wds kw ws ∧ Sm2 ps ps' ∧ PA (n + kn) ps'
theorem words_loop {C : Cc} {tree : D} {t : Tg} {body : Sg} {Good : D → Prop} {kw kn N : Nat} (h : TStep C tree t body Good kw kn N) : ∀ (ds : List D) (n : Nat) (ps : Slot) (acc : List D) (s3 s4 s5 s6 s7 : Slot), (∀ d ∈ ds, Good d) → PA n ps → n + ds.length * kn ≤ N → Fr5 s3 s4 s5 s6 s7 → acc.length + ds.length * kw ≤ 100000 →
    ∃ ws ps' t3 t4 t5 t6 t7, forL C t body ds [ps, .val tree, .own (.lst acc), s3, s4, s5, s6, s7] = .nx [ps', .val tree, .own (.lst (acc ++ ws)), t3, t4, t5, t6, t7] ∧ Fr5 t3 t4 t5 t6 t7 ∧ Wds (ds.length * kw) ws ∧ Sm2 ps ps' ∧ PA (n + ds.length * kn) ps'
  | [], n, ps, acc, s3, s4, s5, s6, s7, _, hp, _, hf, _ => ⟨[], ps, s3, s4, s5, s6, s7, by simp, hf, ⟨by simp, by simp⟩, hp.refl, by simpa using hp⟩
  | d :: ds, n, ps, acc, s3, s4, s5, s6, s7, hd, hp, hn, hf, ha => by
    rw [List.length_cons, Nat.succ_mul] at hn ha
    obtain ⟨S1, ws, ps1, t3, t4, t5, t6, t7, e1, e2, hf1, hw, s1, p1⟩ := h d n ps acc s3 s4 s5 s6 s7 (hd d List.mem_cons_self) hp (by omega) hf (by omega)
    obtain ⟨ws2, ps2, u3, u4, u5, u6, u7, e3, hf2, hw2, s2, p2⟩ := words_loop h ds (n + kn) ps1 (acc ++ ws) t3 t4 t5 t6 t7 (fun x hx => hd x (List.mem_cons_of_mem _ hx)) p1 (by omega) hf1 (by rw [List.length_append]; have := hw.2; omega)
    refine ⟨ws ++ ws2, ps2, u3, u4, u5, u6, u7, ?_, hf2, ?_, s1.trans s2, ?_⟩
    · conv => lhs; unfold forL
      rw [e1]
      dsimp only
      rw [e2]
      dsimp only
      rw [e3, List.append_assoc]
    · rw [List.length_cons, Nat.succ_mul, Nat.add_comm]
      exact hw.app hw2
    · rw [List.length_cons, Nat.succ_mul, Nat.add_comm (ds.length * kn), ← Nat.add_assoc]
      exact p2
abbrev rowB : Sg := (sSet 2 (sOp2 gAdd (sOp2 gAdd (sOp2 gAdd (sOp2 gAdd (sOp2 gAdd (sVar 2) (sLst (sCons (sC (.str "in")) (sCons (sVar 3) (sCons (sC (.str "from")) sNil))))) (sCall 22 (sKCons 0 (sVar 4) sKNil))) (sLst (sCons (sC (.str "to")) sNil))) (sCall 22 (sKCons 0 (sVar 5) sKNil))) (sLst (sCons (sC (.str ";")) sNil))))
abbrev ndB : Sg := (sSet 2 (sOp2 gAdd (sOp2 gAdd (sOp2 gAdd (sVar 2) (sLst (sCons (sVar 3) (sCons (sC (.str "=")) sNil)))) (sCall 25 (sKCons 2 (sVar 0) (sKCons 0 (sVar 6) sKNil)))) (sLst (sCons (sC (.str ";")) sNil))))
abbrev outB : Sg := (sSet 2 (sOp2 gAdd (sVar 2) (sLst (sCons (sC (.str "out")) (sCons (sVar 3) (sCons (sC (.str ";")) sNil))))))
abbrev clB : Sg := (sSet 2 (sOp2 gAdd (sOp2 gAdd (sOp2 gAdd (sVar 2) (sLst (sCons (sC (.str "claim")) (sCons (sVar 3) (sCons (sC (.str ":")) sNil))))) (sCall 26 (sKCons 2 (sVar 0) (sKCons 0 (sVar 7) sKNil)))) (sLst (sCons (sC (.str ";")) sNil))))
theorem row_step {m N : Nat} (hm : 1 ≤ m) (tree : D) : TStep (CC fu m) tree (tgT 3 (tgsC (tgN 3) (tgsC (tgN 4) (tgsC (tgN 5) tgsN)))) rowB IsRow 13 0 N := by
  rintro d n ps acc s3 s4 s5 s6 s7 ⟨nm, lo, hi, hnm, hlo, hhi, rfl⟩ hp hn ⟨f3, f4, f5, f6, f7⟩ ha
  obtain ⟨w1, e1, g1⟩ := ratio22 (fu := fu) hm hlo
  obtain ⟨w2, e2, g2⟩ := ratio22 (fu := fu) hm hhi
  have l1 := g1.2
  have l2 := g2.2
  refine ⟨[ps, .val tree, .own (.lst acc), .val nm, .val lo, .val hi, s6, s7], (.str "in" :: nm :: .str "from" :: (w1 ++ .str "to" :: (w2 ++ [.str ";"]))), ps, .val nm, .val lo, .val hi, s6, s7, by simp [f3, f4, f5], ?_, ⟨rfl, rfl, rfl, f6, f7⟩, ?_, hp.refl, hp⟩
  · rcases hp with z | ⟨p, z, _⟩ <;> subst z <;> simp (disch := (simp only [List.length_append, List.length_cons, List.length_nil]; omega)) [e1, e2, gAdd_ll]
  · have q := Wds.cons w_in (Wds.cons (nm_wd hnm) (Wds.cons w_from (g1.app (Wds.cons w_to (g2.app (Wds.one w_semi))))))
    exact ⟨q.1, by have := q.2; omega⟩
theorem out_step {m N : Nat} (tree : D) : TStep (CC fu m) tree (tgN 3) outB IsNm 3 0 N := by
  rintro d n ps acc s3 s4 s5 s6 s7 hnm hp hn ⟨f3, f4, f5, f6, f7⟩ ha
  refine ⟨[ps, .val tree, .own (.lst acc), .val d, s4, s5, s6, s7], [.str "out", d, .str ";"], ps, .val d, s4, s5, s6, s7, by simp [f3], ?_, ⟨rfl, f4, f5, f6, f7⟩, Wds.cons w_out (Wds.cons (nm_wd hnm) (Wds.one w_semi)), hp.refl, hp⟩
  rcases hp with z | ⟨p, z, _⟩ <;> subst z <;> simp (disch := (simp only [List.length_append, List.length_cons, List.length_nil]; omega)) [gAdd_ll]
theorem node_step {m N : Nat} (hm : 30 ≤ m) (hN : N ≤ 400000000) (tree : D) : TStep (CC fu m) tree (tgT 2 (tgsC (tgN 3) (tgsC (tgN 6) tgsN))) ndB IsNode 1927 962 N := by
  rintro d n ps acc s3 s4 s5 s6 s7 ⟨nm, e, hnm, he, rfl⟩ hp hn ⟨f3, f4, f5, f6, f7⟩ ha
  have x4 : wx 4 = 1924 := rfl
  have x5 : cx 4 = 962 := rfl
  obtain ⟨r, ws, ps1, e1, hr, hw, s1, p1⟩ := (ex_both (fu := fu) 4 e (by omega) he m n ps (by omega) hp (by omega)).1
  rw [x4] at hw
  rw [x5] at p1
  have l1 := hw.2
  have c1 := callPen (C := CC fu m) (i := 25) (g := sKCons 0 (sVar 6) sKNil) (S := [.val tree, .own (.lst acc), .val nm, s4, s5, .val e, s7]) (S1 := [.val tree, .own (.lst acc), .val nm, s4, s5, .val e, s7]) (ds := [e]) s1.refl s1 (by simp) e1 rfl hr.vf
  refine ⟨[ps, .val tree, .own (.lst acc), .val nm, s4, s5, .val e, s7], (nm :: .str "=" :: (ws ++ [.str ";"])), ps1, .val nm, s4, s5, .val e, s7, by simp [f3, f6], ?_, ⟨rfl, f4, f5, rfl, f7⟩, ?_, s1, p1⟩
  · rcases hr with q | q <;> subst q <;> simp (disch := (simp only [List.length_append, List.length_cons, List.length_nil]; omega)) [-x_sCall, c1, gAdd_ll]
  · have q := Wds.cons (nm_wd hnm) (Wds.cons w_eq (hw.app (Wds.one w_semi)))
    exact ⟨q.1, by have := q.2; omega⟩
theorem claim_step {m N : Nat} (hm : 40 ≤ m) (hN : N ≤ 400000000) (tree : D) : TStep (CC fu m) tree (tgT 2 (tgsC (tgN 3) (tgsC (tgN 7) tgsN))) clB IsClm 15415 7706 N := by
  rintro d n ps acc s3 s4 s5 s6 s7 ⟨nm, e, hnm, he, rfl⟩ hp hn ⟨f3, f4, f5, f6, f7⟩ ha
  have x4 : kc 2 = 15411 := rfl
  have x5 : dc 2 = 7706 := rfl
  obtain ⟨r, ws, ps1, e1, hr, hw, s1, p1⟩ := cl_all (fu := fu) 2 e (by omega) he m n ps (by omega) hp (by omega)
  rw [x4] at hw
  rw [x5] at p1
  have l1 := hw.2
  have c1 := callPen (C := CC fu m) (i := 26) (g := sKCons 0 (sVar 7) sKNil) (S := [.val tree, .own (.lst acc), .val nm, s4, s5, s6, .val e]) (S1 := [.val tree, .own (.lst acc), .val nm, s4, s5, s6, .val e]) (ds := [e]) s1.refl s1 (by simp) e1 rfl hr.vf
  refine ⟨[ps, .val tree, .own (.lst acc), .val nm, s4, s5, s6, .val e], (.str "claim" :: nm :: .str ":" :: (ws ++ [.str ";"])), ps1, .val nm, s4, s5, s6, .val e, by simp [f3, f7], ?_, ⟨rfl, f4, f5, f6, rfl⟩, ?_, s1, p1⟩
  · rcases hr with q | q <;> subst q <;> simp (disch := (simp only [List.length_append, List.length_cons, List.length_nil]; omega)) [-x_sCall, c1, gAdd_ll]
  · have q := Wds.cons w_claim (Wds.cons (nm_wd hnm) (Wds.cons w_colon (hw.app (Wds.one w_semi))))
    exact ⟨q.1, by have := q.2; omega⟩
theorem words27 {m n : Nat} {ps : Slot} {t : D} (hm : 41 ≤ m) (hp : PA n ps) (hn : n < 300000000) (ht : IsTree t) : ∃ ws ps', run fu m 27 [ps, .val t] = .ok (.fr (.lst ws)) [keepBor ps', .non] ∧ Wds 38589 ws ∧ Sm2 ps ps' ∧ PA (n + 20000) ps' := by
  obtain ⟨rows, nodes, outs, claims, rfl, hr, lr, hd, ld, ho, lo, hc, lc⟩ := ht
  obtain ⟨w1, ps1, t3, t4, t5, t6, t7, e1, f1, g1, s1, p1⟩ := words_loop (row_step (fu := fu) (m := m - 1) (N := 400000000) (by omega) (.tup [.tup rows, .tup nodes, .tup outs, .tup claims])) rows n ps [.str "net", .str "{"] .non .non .non .non .non hr hp (by omega) ⟨rfl, rfl, rfl, rfl, rfl⟩ (by simp; omega)
  have l1 := g1.2
  obtain ⟨w2, ps2, u3, u4, u5, u6, u7, e2, f2, g2, s2, p2⟩ := words_loop (node_step (fu := fu) (m := m - 1) (N := 400000000) (by omega) (by omega) (.tup [.tup rows, .tup nodes, .tup outs, .tup claims])) nodes _ ps1 (.str "net" :: .str "{" :: w1) t3 t4 t5 t6 t7 hd p1 (by omega) f1 (by simp only [List.length_cons]; omega)
  have l2 := g2.2
  obtain ⟨w3, ps3, v3, v4, v5, v6, v7, e3, f3, g3, s3, p3⟩ := words_loop (out_step (fu := fu) (m := m - 1) (N := 400000000) (.tup [.tup rows, .tup nodes, .tup outs, .tup claims])) outs _ ps2 (.str "net" :: .str "{" :: (w1 ++ w2)) u3 u4 u5 u6 u7 ho p2 (by omega) f2 (by simp only [List.length_append, List.length_cons]; omega)
  have l3 := g3.2
  obtain ⟨w4, ps4, x3, x4, x5, x6, x7, e4, f4, g4, s4, p4⟩ := words_loop (claim_step (fu := fu) (m := m - 1) (N := 400000000) (by omega) (by omega) (.tup [.tup rows, .tup nodes, .tup outs, .tup claims])) claims _ ps3 (.str "net" :: .str "{" :: (w1 ++ (w2 ++ (w3 ++ [.str "}"])))) v3 v4 v5 v6 v7 hc p3 (by omega) f3 (by simp only [List.length_append, List.length_cons, List.length_nil]; omega)
  have l4 := g4.2
  have W := Wds.cons w_net (Wds.cons w_lcu (g1.app (g2.app (g3.app (Wds.cons w_rcu g4)))))
  refine ⟨_, ps4, ?_, ⟨W.1, by have := W.2; omega⟩, s1.trans (s2.trans (s3.trans s4)), p4.le (by omega)⟩
  rw [run_m (F := ⟨2, 8, F__law_tree_words⟩) rfl (by omega), bodyRun_eq]
  simp only [List.cons_append, List.nil_append, List.append_assoc] at e1 e2 e3 e4
  simp (disch := (simp only [List.length_append, List.length_cons, List.length_nil]; omega)) [-x_sCall, -x_sSet, x_sSet 2 (sLst (sCons (sC (.str "net")) (sCons (sC (.str "{")) sNil))), x_sSet 2 (sOp2 gAdd (sVar 2) (sLst (sCons (sC (.str "}")) sNil))), F__law_tree_words, atI_0, atI_1, atI_2, atI_3, gAdd_ll, e1, e2, e3, e4]
end
end K44

/-! K44B3 -/
namespace K44
open PySem PySem.Spec PyProof.Rows L2 Kn

/-! ### texts of good words have no bad word -/
def Ends (l : List Nat) : Prop := ∀ line col, ∃ rows a b, T line col l = rows ++ [row "end" "" a b]
theorem Ends.nil : Ends [] := fun line col => ⟨[], line, col, rfl⟩
theorem Ends.nl {r : List Nat} (h : Ends r) : Ends (10 :: r) := fun line col => by rw [T_nl]; exact h _ _
theorem Ends.sp {r : List Nat} (h : Ends r) : Ends (32 :: r) := fun line col => by rw [T_sp]; exact h _ _
theorem Ends.rem {r : List Nat} (h : Ends ((35 :: r).drop (remk (35 :: r)).length)) : Ends (35 :: r) := fun line col => by rw [T_rem]; exact h _ _
theorem Ends.word {w' rest : List Nat} {c : Nat} (h1 : c ≠ 10) (h2 : c ≠ 32) (h3 : c ≠ 35) (s : Str) (ht : tok1 (c :: (w' ++ rest)) = (false, s, mk (c :: w'))) (h : Ends rest) : Ends ((c :: w') ++ rest) := by
  intro line col
  rw [List.cons_append, T_word line col (w' ++ rest) h1 h2 h3, ht]
  obtain ⟨rows, a, b, e⟩ := h line (col + (c :: w').length)
  refine ⟨row s (mk (c :: w')) line col :: rows, a, b, ?_⟩
  rw [if_neg (by simp)]
  show row s (mk (c :: w')) line col :: T line (col + (mk (c :: w')).length) ((c :: (w' ++ rest)).drop (mk (c :: w')).length) = _
  rw [mk_len, ← List.cons_append, List.drop_left, e]
  rfl
theorem isTwo_cases {w : List Nat} (h : isTwo (mk w) = true) : w = [60, 61] ∨ w = [62, 61] ∨ w = [33, 61] := by
  unfold isTwo twoDs at h
  simp only [List.any_cons, List.any_nil, Bool.or_false, Bool.or_eq_true] at h
  have key : ∀ (x : List Nat) (s : Str), s = mk x → eqD (.str s) (.str (mk w)) = true → w = x := fun x s e q => by
    subst e
    have q' : (mk x == mk w) = true := q
    rw [beq_iff_eq] at q'
    exact (mk_inj q').symm
  rcases h with h | h | h
  · exact .inl (key [60, 61] _ (by decide +kernel) h)
  · exact .inr (.inl (key [62, 61] _ (by decide +kernel) h))
  · exact .inr (.inr (key [33, 61] _ (by decide +kernel) h))
/-- what may follow a word -/
def Sep (w rest : List Nat) : Prop := ∀ c r, rest = c :: r → ((∀ x ∈ w, x ∉ signsL) ∨ c ∉ signsL) ∧ isTwo (mk (w ++ [c])) = false
theorem sepFree : ∀ c ∈ signsL ++ [60, 62, 33] ++ onesL, c ≠ 10 ∧ c ≠ 32 ∧ c ≠ 35 := by decide +kernel
theorem digL : ∀ c ∈ digitsL, c ∉ lettersL ∧ c ∈ signsL := by decide +kernel
theorem sgnL : ∀ c ∈ [60, 62, 33] ++ onesL, c ∉ lettersL ∧ c ∉ digitsL ∧ c ∉ signsL := by decide +kernel
theorem good_ends {w rest : List Nat} (hw : GoodWd w) (hs : Sep w rest) (h : Ends rest) : Ends (w ++ rest) := by
  rcases hw with ⟨c, r, rfl, hc, hr, hl⟩ | ⟨h0, hd, hb⟩ | h2 | ⟨c, hc, rfl⟩
  · have hcs := hr c List.mem_cons_self
    have hsp := sepFree c (by simp [hcs])
    have e : spanS (c :: (r ++ rest)) = c :: r := by
      unfold spanS
      rw [← List.cons_append]
      exact Kn.takeWhile_mid _ (c :: r) rest (fun x hx => by simpa using hr x hx) (fun d r' e => by
        rcases (hs d r' e).1 with q | q
        · exact absurd hcs (q c List.mem_cons_self)
        · simpa using q)
    refine Ends.word hsp.1 hsp.2.1 hsp.2.2 (if isOwn (mk (c :: r)) = true then "own" else "name") ?_ h
    unfold tok1
    dsimp only
    rw [if_pos hc, e, if_neg (by omega)]
  · cases w with
    | nil => exact absurd rfl h0
    | cons c r =>
      have hcd := hd c List.mem_cons_self
      have hcs := digL c hcd
      have hsp := sepFree c (by simp [hcs.2])
      have e : spanD (c :: (r ++ rest)) = c :: r := by
        unfold spanD
        rw [← List.cons_append]
        exact Kn.takeWhile_mid _ (c :: r) rest (fun x hx => by simpa using hd x hx) (fun d r' e => by
          rcases (hs d r' e).1 with q | q
          · exact absurd hcs.2 (q c List.mem_cons_self)
          · simpa using fun z => q (digL d z).2)
      refine Ends.word hsp.1 hsp.2.1 hsp.2.2 "number" ?_ h
      unfold tok1
      dsimp only
      rw [if_neg hcs.1, if_pos hcd, e, hb, if_neg (by decide)]
  · have hq : ∀ c, c = 60 ∨ c = 62 ∨ c = 33 → w = [c, 61] → Ends (w ++ rest) := by
      rintro c hc rfl
      have hc' : c ∈ [60, 62, 33] ++ onesL := by rcases hc with q | q | q <;> subst q <;> simp
      have hz := sgnL c hc'
      have hsp := sepFree c (by rcases hc with q | q | q <;> subst q <;> simp)
      refine Ends.word (w' := [61]) hsp.1 hsp.2.1 hsp.2.2 "sign" ?_ h
      unfold tok1
      dsimp only
      rw [if_neg hz.1, if_neg hz.2.1]
      show (if isTwo (mk [c, 61]) = true then _ else _) = _
      rw [if_pos h2]
      rfl
    rcases isTwo_cases h2 with q | q | q
    · exact hq 60 (.inl rfl) q
    · exact hq 62 (.inr (.inl rfl)) q
    · exact hq 33 (.inr (.inr rfl)) q
  · have hz := sgnL c (by simp [hc])
    have hsp := sepFree c (by simp [hc])
    refine Ends.word (w' := []) hsp.1 hsp.2.1 hsp.2.2 "sign" ?_ h
    have hn : isTwo (mk ((c :: rest).take 2)) = false := by
      cases rest with
      | nil =>
        cases q : isTwo (mk [c]) with
        | false => exact q
        | true => exact absurd (isTwo_len q).1 (by simp)
      | cons d r => exact (hs d r rfl).2
    unfold tok1
    dsimp only
    rw [if_neg hz.1, if_neg hz.2.1, List.nil_append, hn, if_neg (by decide), if_pos hc]
theorem GoodWd.ne {w : List Nat} (h : GoodWd w) : w ≠ [] := by
  rcases h with ⟨c, r, rfl, _⟩ | ⟨h, _⟩ | h | ⟨c, _, rfl⟩
  · simp
  · exact h
  · rcases isTwo_cases h with q | q | q <;> subst q <;> simp
  · simp
theorem GoodWd.le {w : List Nat} (h : GoodWd w) : w.length ≤ 12 := by
  rcases h with ⟨c, r, _, _, _, h⟩ | ⟨_, _, h⟩ | h | ⟨c, _, rfl⟩
  · exact h
  · unfold badNum at h
    simp only [Bool.or_eq_false_iff, decide_eq_false_iff_not] at h
    omega
  · rcases isTwo_cases h with q | q | q <;> subst q <;> simp
  · simp
theorem asc1 : ∀ c ∈ signsL ++ onesL ++ [60, 61, 62, 33], c < 128 := by decide +kernel
theorem GoodWd.asc {w : List Nat} (h : GoodWd w) : ∀ c ∈ w, c < 128 := by
  rcases h with ⟨c, r, _, _, h, _⟩ | ⟨_, h, _⟩ | h | ⟨c, hc, rfl⟩
  · intro c hc; exact asc1 c (by simp [h c hc])
  · intro c hc; exact asc1 c (by simp [(digL c (h c hc)).2])
  · rcases isTwo_cases h with q | q | q <;> subst q <;> simp
  · intro d hd; rw [List.mem_singleton.mp hd]; exact asc1 c (by simp [hc])
/-- all signs of a word are such as its last -/
theorem GoodWd.all {w : List Nat} (h : GoodWd w) : (∀ c ∈ w, c ∈ signsL) ∨ ∀ c ∈ w, c ∉ signsL := by
  rcases h with ⟨c, r, _, _, h, _⟩ | ⟨_, h, _⟩ | h | ⟨c, hc, rfl⟩
  · exact .inl h
  · exact .inl fun c hc => (digL c (h c hc)).2
  · right
    have k : ∀ c ∈ [60, 61, 62, 33], c ∉ signsL := by decide +kernel
    rcases isTwo_cases h with q | q | q <;> subst q <;> intro c hc <;> exact k c (by simp at hc; rcases hc with q | q <;> simp [q])
  · right
    intro d hd
    rw [List.mem_singleton.mp hd]
    exact (sgnL c (by simp [hc])).2.2
/-! ### gaps -/
def gapR : List Nat := [32, 35, 32, 111, 117, 116, 32, 120, 59, 32, 125, 10]
def Gap0 (g : List Nat) : Prop := g = [10] ∨ g = [32] ∨ g = gapR ∨ g = [32, 32] ∨ g = [10, 10, 32, 32] ∨ g = [32, 35, 10]
theorem gap_ends {g r : List Nat} (hg : Gap0 g) (h : Ends r) : Ends (g ++ r) := by
  rcases hg with q | q | q | q | q | q <;> subst q
  · exact h.nl
  · exact h.sp
  · have e : remk (35 :: 32 :: 111 :: 117 :: 116 :: 32 :: 120 :: 59 :: 32 :: 125 :: 10 :: r) = [35, 32, 111, 117, 116, 32, 120, 59, 32, 125] := by simp [remk, List.takeWhile_cons]
    show Ends (32 :: 35 :: 32 :: 111 :: 117 :: 116 :: 32 :: 120 :: 59 :: 32 :: 125 :: 10 :: r)
    exact Ends.sp (Ends.rem (by rw [e]; exact h.nl))
  · exact h.sp.sp
  · exact h.sp.sp.nl.nl
  · have e : remk (35 :: 10 :: r) = [35] := by simp [remk, List.takeWhile_cons]
    show Ends (32 :: 35 :: 10 :: r)
    exact Ends.sp (Ends.rem (by rw [e]; exact h.nl))
theorem sep_of {w r : List Nat} {c : Nat} (h1 : c ∉ signsL) (h2 : c ≠ 61) : Sep w (c :: r) := by
  intro d r' e
  cases e
  refine ⟨.inr h1, ?_⟩
  cases q : isTwo (mk (w ++ [c])) with
  | false => rfl
  | true =>
    have k : ∀ a : Nat, w ++ [c] = [a, 61] → False := fun a e => by
      have := congrArg List.getLast? e
      simp at this
      exact h2 this
    rcases isTwo_cases q with z | z | z <;> exact (k _ z).elim
theorem gap_sep {g w r : List Nat} (hg : Gap0 g) : Sep w (g ++ r) := by
  have a : 10 ∉ signsL := by decide +kernel
  have b : 32 ∉ signsL := by decide +kernel
  rcases hg with q | q | q | q | q | q <;> subst q
  · exact sep_of a (by decide)
  · exact sep_of b (by decide)
  · exact sep_of b (by decide)
  · exact sep_of b (by decide)
  · exact sep_of a (by decide)
  · exact sep_of b (by decide)
theorem gap_len {g : List Nat} (hg : Gap0 g) : g.length ≤ 12 ∧ ∀ c ∈ g, c < 128 := by
  rcases hg with q | q | q | q | q | q <;> subst q <;> decide
def Pre (t last : List Nat) : Prop := ∀ rest, Ends rest → Sep last rest → Ends (t ++ rest)
theorem Pre.nil : Pre [] [] := fun rest h _ => h
theorem Pre.step {t last g w : List Nat} (h : Pre t last) (hw : GoodWd w) (hg : Gap0 g ∨ (g = [] ∧ Sep last w)) : Pre (t ++ (g ++ w)) w := by
  intro rest hr hs
  have hwr := good_ends hw hs hr
  rw [List.append_assoc, List.append_assoc]
  rcases hg with hg | ⟨rfl, hg⟩
  · exact h _ (gap_ends hg hwr) (gap_sep hg)
  · refine h _ hwr ?_
    intro c r e
    have hne := hw.ne
    cases w with
    | nil => exact absurd rfl hne
    | cons x w =>
      cases e
      exact hg _ _ rfl
def tailR : List Nat := [32, 35, 32, 116, 104, 101, 32, 101, 110, 100]
def Tail0 (g : List Nat) : Prop := g = [] ∨ g = [10] ∨ g = [32] ∨ g = tailR ∨ g = [35]
theorem Pre.done {t last g : List Nat} (h : Pre t last) (hg : Tail0 g) : Ends (t ++ g) := by
  have a : 10 ∉ signsL := by decide +kernel
  have b : 32 ∉ signsL := by decide +kernel
  have c : 35 ∉ signsL := by decide +kernel
  rcases hg with q | q | q | q | q <;> subst q
  · exact h _ .nil (fun _ _ e => nomatch e)
  · exact h _ Ends.nil.nl (sep_of a (by decide))
  · exact h _ Ends.nil.sp (sep_of b (by decide))
  · have e : remk [35, 32, 116, 104, 101, 32, 101, 110, 100] = [35, 32, 116, 104, 101, 32, 101, 110, 100] := by simp [remk, List.takeWhile_cons]
    refine h _ (Ends.sp (Ends.rem ?_)) (sep_of b (by decide))
    rw [e]
    exact .nil
  · have e : remk [35] = [35] := by simp [remk, List.takeWhile_cons]
    refine h _ (Ends.rem ?_) (sep_of c (by decide))
    rw [e]
    exact .nil
theorem tail_len {g : List Nat} (hg : Tail0 g) : g.length ≤ 12 ∧ ∀ c ∈ g, c < 128 := by
  rcases hg with q | q | q | q | q <;> subst q <;> decide
end K44

/-! K44B4 -/
namespace K44
open PySem PySem.Spec PyProof.Rows L2 Kn
/-! ### texts -/
def wd (w : List Nat) : D := .str (mk w)
theorem Wds.list {k : Nat} {ws : List D} (h : Wds k ws) : ∃ wl : List (List Nat), ws = wl.map wd ∧ (∀ w ∈ wl, GoodWd w) ∧ wl.length ≤ k := by
  obtain ⟨h1, h2⟩ := h
  have : ∃ wl : List (List Nat), ws = wl.map wd ∧ (∀ w ∈ wl, GoodWd w) := by
    clear h2
    induction ws with
    | nil => exact ⟨[], rfl, fun _ h => nomatch h⟩
    | cons d ds ih =>
      obtain ⟨wl, e, h⟩ := ih fun x hx => h1 x (List.mem_cons_of_mem _ hx)
      obtain ⟨w, hw, g⟩ := h1 d List.mem_cons_self
      refine ⟨w :: wl, by rw [e, hw]; rfl, fun x hx => ?_⟩
      rcases List.mem_cons.mp hx with q | q
      · rw [q]; exact g
      · exact h x q
  obtain ⟨wl, rfl, h⟩ := this
  exact ⟨wl, rfl, h, by simpa using h2⟩
theorem asStrs_wd : ∀ wl : List (List Nat), asStrs (wl.map wd) = some (wl.map mk)
  | [] => rfl
  | w :: wl => by
    rw [List.map_cons, List.map_cons]
    unfold wd asStrs
    have := asStrs_wd wl
    unfold wd at this
    rw [this]
    rfl
theorem sum_le : ∀ wl : List (List Nat), (∀ w ∈ wl, w.length ≤ 12) → ((wl.map mk).map (·.length)).sum ≤ 12 * wl.length
  | [], _ => Nat.le_refl _
  | w :: wl, h => by
    have := sum_le wl fun x hx => h x (List.mem_cons_of_mem _ hx)
    have := h w List.mem_cons_self
    simp only [List.map_cons, List.sum_cons, List.length_cons, mk_len]
    omega
theorem glue_good : ∀ wl : List (List Nat), (∀ w ∈ wl, GoodWd w) → Ends (glue 32 wl) ∧ (glue 32 wl).length ≤ 13 * wl.length ∧ ∀ c ∈ glue 32 wl, c < 128
  | [], _ => ⟨.nil, Nat.le_refl _, fun _ h => nomatch h⟩
  | [w], h => by
    have g := h w List.mem_cons_self
    refine ⟨?_, ?_, g.asc⟩
    · have := good_ends g (rest := []) (fun _ _ e => nomatch e) .nil
      rw [List.append_nil] at this
      exact this
    · have := g.le
      show w.length ≤ 13 * 1
      omega
  | w :: m :: ws, h => by
    have g := h w List.mem_cons_self
    obtain ⟨i1, i2, i3⟩ := glue_good (m :: ws) fun x hx => h x (List.mem_cons_of_mem _ hx)
    have hn : (32 : Nat) ∉ signsL := by decide +kernel
    refine ⟨good_ends g (sep_of hn (by decide)) i1.sp, ?_, ?_⟩
    · have := g.le
      show (w ++ 32 :: glue 32 (m :: ws)).length ≤ _
      simp only [List.length_append, List.length_cons] at i2 ⊢
      omega
    · intro c hc
      have hc : c ∈ w ++ 32 :: glue 32 (m :: ws) := hc
      rcases List.mem_append.mp hc with q | q
      · exact g.asc c q
      · rcases List.mem_cons.mp q with q | q
        · omega
        · exact i3 c q
theorem join_plain (s : Str) (l : List Str) : Txt.join s l = Str.join s l := eq_of_beq (PyProof.Rows.join_plain_closes s l)
theorem gJoin_wd {wl : List (List Nat)} (h : ∀ w ∈ wl, GoodWd w) (hl : wl.length ≤ 100000) : gJoin (Str.ofString " ") (.lst (wl.map wd)) = some (.val (.str (mk (glue 32 wl)))) := by
  have e : Str.ofString " " = mk [32] := by decide +kernel
  have s := sum_le wl fun w hw => (h w hw).le
  unfold gJoin
  simp only [asStrs_wd, Option.bind_some, e]
  rw [if_pos]
  · rw [join_plain, join_glue]
  · simp only [List.length_map, mk_len, List.length_cons, List.length_nil]
    omega
def TextOk (l : List Nat) : Prop := l.length ≤ 930000 ∧ (∀ c ∈ l, c < 128) ∧ Ends l
section
variable {fu : Nat}
theorem text28 {m : Nat} {t : D} (hm : 42 ≤ m) (ht : IsTree t) : ∃ l, run fu m 28 [.val t] = .ok (.val (.str (mk l))) [.non] ∧ TextOk l := by
  obtain ⟨ws, ps', e, hw, s1, p1⟩ := words27 (fu := fu) (m := m - 1) (n := 0) (ps := .val .non) (by omega) (.inl rfl) (by omega) ht
  obtain ⟨wl, rfl, hg, hl⟩ := hw.list
  obtain ⟨g1, g2, g3⟩ := glue_good wl hg
  have ej := gJoin_wd hg (by omega)
  cases s1
  refine ⟨glue 32 wl, ?_, by omega, g3, g1⟩
  rw [run_m (F := ⟨1, 1, F__law_text_of⟩) rfl (by omega), bodyRun_eq]
  simp [F__law_text_of, e, ej]
/-! ### what may stand between two words -/
theorem alnum_all : ∀ c : Fin 128, (Txt.isalnum (mk [c.val]) || c.val == 95) = decide (c.val ∈ signsL) := by decide +kernel
theorem alnum_or {c : Nat} (h : c < 128) : (Txt.isalnum (mk [c]) || c == 95) = decide (c ∈ signsL) := alnum_all ⟨c, h⟩
theorem s_us : (D.str (Str.ofString "_")) = .str (mk [95]) := by kernel_rfl
theorem s_em : (D.str (Str.ofString "")) = .str (mk []) := by kernel_rfl
/-- is a sign of a word a letter, a figure or a stroke -/
theorem sgn_ok {C : Cc} {S : Kn.Env} {f : Sm} {c : Nat} (hc : c < 128) (hf : f C S = .ok (.val (.str (mk [c]))) S) : sOrV (sOp1 (strG gIsalnum) f) (sOp2 gEq f (sC (.str "_"))) C S = .ok (.val (.bl (decide (c ∈ signsL)))) S := by
  have g : gIsalnum (mk [c]) = some (.val (.bl (Txt.isalnum (mk [c])))) := rfl
  have e := gEq_one c 95 (by omega) (by decide)
  have q := alnum_or hc
  cases ha : Txt.isalnum (mk [c]) with
  | true =>
    rw [ha] at q
    simp [hf, strG, g, ha, ← q]
  | false =>
    rw [ha] at q
    simp only [Bool.false_or] at q
    simp [hf, strG, g, ha, s_us, e, q]
theorem close_gen {C : Cc} {S : Kn.Env} {E X Y : Sm} {e x y : Bool} (hE : E C S = .ok (.val (.bl e)) S) (hX : e = false → X C S = .ok (.val (.bl x)) S) (hY : Y C S = .ok (.val (.bl y)) S) : sOrV E (sOrV (sNotV X) (sNotV Y)) C S = .ok (.val (.bl (e || (!x || !y)))) S := by
  cases e with
  | true => simp [hE]
  | false =>
    have hX := hX rfl
    cases x <;> simp [hE, hX, hY]
def gapC : Sm := (sOrV (sOp2 gEq (sVar 1) (sC (.str ""))) (sOrV (sNotV (sOrV (sOp1 (strG gIsalnum) (sOp2 gIdx (sVar 1) (sOp1 gNeg (sC (.int 1))))) (sOp2 gEq (sOp2 gIdx (sVar 1) (sOp1 gNeg (sC (.int 1)))) (sC (.str "_"))))) (sNotV (sOrV (sOp1 (strG gIsalnum) (sOp2 gIdx (sVar 2) (sC (.int 0)))) (sOp2 gEq (sOp2 gIdx (sVar 2) (sC (.int 0))) (sC (.str "_")))))))
def gapJ : Sm := (sOp2 gIn (sOp2 gAdd (sVar 1) (sSl (sVar 2) sNoP (sPart (sC (.int 1))))) (sTup (sCons (sC (.str "<=")) (sCons (sC (.str ">=")) (sCons (sC (.str "!=")) sNil)))))
def gapE : Sg := (sSeq (sSet 5 (sCall 7 (sKCons 2 (sVar 0) (sKCons 0 (sC (.int 9)) sKNil))))
  (sSeq (sIf (sB (sOp2 gEq (sVar 5) (sC (.int 0)))) (sRet (sC (.str "\n"))) sSkip)
  (sSeq (sIf (sB (sOp2 gEq (sVar 5) (sC (.int 1)))) (sRet (sCall 8 (sKCons 2 (sVar 0) (sKCons 0 (sLst (sCons (sC (.str " # out x; }\n")) (sCons (sC (.str "  ")) (sCons (sC (.str "\n\n  ")) (sCons (sC (.str " #\n")) sNil))))) sKNil)))) sSkip)
  (sRet (sIte (sAndT (sB (sVar 3)) (sAndT (sNotT (sB (sVar 4))) (sB (sOp2 gLt (sVar 5) (sC (.int 4)))))) (sC (.str "")) (sC (.str " ")))))))
theorem gap_eq : F__law_gap = sSeq (sSet 3 gapC) (sSeq (sSet 4 gapJ) gapE) := rfl
theorem gIdx_lastS {w : List Nat} {c : Nat} (h : w.length ≤ 16777216) (e : w.getLast? = some c) : gIdx (.str (mk w)) (.int (-1)) = some (.val (.str (mk [c]))) := by
  obtain ⟨m, hm⟩ : ∃ m, w.length = m + 1 := by
    cases w with
    | nil => cases e
    | cons x w => exact ⟨w.length, rfl⟩
  have e2 : w[m]? = some c := by
    rw [List.getLast?_eq_getElem?, hm, Nat.add_sub_cancel] at e
    exact e
  show (if (mk w).length ≤ 16777216 then (atI w (-1)).map (fun c => R.val (.str ⟨#[c]⟩)) else none) = _
  rw [mk_len, if_pos h]
  unfold atI ixN
  rw [if_neg (by decide), if_pos (by omega)]
  have : ((-1 : Int) + (w.length : Int)).toNat = m := by omega
  simp only [Option.bind_some, this, e2]
  rfl
theorem gapC_ok {C : Cc} {p : D} {s3 s4 s5 : Slot} {last w : List Nat} (hl : last = [] ∨ GoodWd last) (hw : GoodWd w) : ∃ b, gapC C [.bor p, .val (.str (mk last)), .val (.str (mk w)), s3, s4, s5] = .ok (.val (.bl b)) [.bor p, .val (.str (mk last)), .val (.str (mk w)), s3, s4, s5] ∧ (b = true → ∀ c r, w = c :: r → (∀ x ∈ last, x ∉ signsL) ∨ c ∉ signsL) := by
  obtain ⟨c, r, hcr⟩ : ∃ c r, w = c :: r := by
    cases w with
    | nil => exact absurd rfl hw.ne
    | cons c r => exact ⟨c, r, rfl⟩
  have hc := hw.asc c (by rw [hcr]; exact List.mem_cons_self)
  have hwl := hw.le
  have gw : gIdx (.str (mk w)) (.int 0) = some (.val (.str (mk [c]))) := gIdx_at (j := 0) (by omega) (by rw [hcr]; rfl)
  have hY : ∀ S : Kn.Env, S = [.bor p, .val (.str (mk last)), .val (.str (mk w)), s3, s4, s5] → (sOp2 gIdx (sVar 2) (sC (.int 0))) C S = .ok (.val (.str (mk [c]))) S := by
    intro S hS
    subst hS
    simp [gw]
  have hE : (sOp2 gEq (sVar 1) (sC (.str ""))) C [.bor p, .val (.str (mk last)), .val (.str (mk w)), s3, s4, s5] = .ok (.val (.bl (last == []))) [.bor p, .val (.str (mk last)), .val (.str (mk w)), s3, s4, s5] := by
    have := gEq_mk last [] (fun x hx => by
      rcases hl with q | q
      · subst q; cases hx
      · have := q.asc x hx; omega) (fun _ h => nomatch h)
    simp [s_em, this]
  rcases hl with q | q
  · subst q
    refine ⟨true, ?_, fun _ c r _ => .inl fun _ h => nomatch h⟩
    have := close_gen (x := true) (Y := sOrV (sOp1 (strG gIsalnum) (sOp2 gIdx (sVar 2) (sC (.int 0)))) (sOp2 gEq (sOp2 gIdx (sVar 2) (sC (.int 0))) (sC (.str "_")))) (X := sOrV (sOp1 (strG gIsalnum) (sOp2 gIdx (sVar 1) (sOp1 gNeg (sC (.int 1))))) (sOp2 gEq (sOp2 gIdx (sVar 1) (sOp1 gNeg (sC (.int 1)))) (sC (.str "_")))) hE (fun h => nomatch h) (sgn_ok hc (hY _ rfl))
    exact this
  · obtain ⟨d, hd⟩ : ∃ d, last.getLast? = some d := by
      cases h : last.getLast? with
      | none => exact absurd (List.getLast?_eq_none_iff.mp h) q.ne
      | some d => exact ⟨d, rfl⟩
    have hdm : d ∈ last := List.mem_of_getLast? hd
    have hda := q.asc d hdm
    have hql := q.le
    have gl := gIdx_lastS (by omega) hd
    have hX : ∀ S : Kn.Env, S = [.bor p, .val (.str (mk last)), .val (.str (mk w)), s3, s4, s5] → (sOp2 gIdx (sVar 1) (sOp1 gNeg (sC (.int 1)))) C S = .ok (.val (.str (mk [d]))) S := by
      intro S hS
      subst hS
      simp [gl]
    have he : (last == []) = false := by
      cases last with
      | nil => exact absurd rfl q.ne
      | cons _ _ => rfl
    rw [he] at hE
    refine ⟨_, close_gen hE (fun _ => sgn_ok hda (hX _ rfl)) (sgn_ok hc (hY _ rfl)), ?_⟩
    intro hb c' r' e
    rw [hcr] at e
    cases e
    simp only [Bool.false_or, Bool.or_eq_true, Bool.not_eq_true', decide_eq_false_iff_not] at hb
    rcases hb with hb | hb
    · left
      rcases q.all with z | z
      · exact absurd (z d hdm) hb
      · exact z
    · exact .inr hb
theorem s_g0 : (D.str (Str.ofString " # out x; }\n")) = wd gapR := by kernel_rfl
theorem s_g1 : (D.str (Str.ofString "  ")) = wd [32, 32] := by kernel_rfl
theorem s_g2 : (D.str (Str.ofString "\n\n  ")) = wd [10, 10, 32, 32] := by kernel_rfl
theorem s_g3 : (D.str (Str.ofString " #\n")) = wd [32, 35, 10] := by kernel_rfl
theorem gap29 {m n : Nat} {p : D} {last w : List Nat} (hm : 3 ≤ m) (hp : IsPen n p) (hn : n < 900000000) (hl : last = [] ∨ GoodWd last) (hw : GoodWd w) : ∃ g p', run fu m 29 [.bor p, .val (.str (mk last)), .val (.str (mk w))] = .ok (.val (.str (mk g))) [.bor p', .non, .non] ∧ (Gap0 g ∨ (g = [] ∧ Sep last w)) ∧ IsPen (n + 2) p' := by
  obtain ⟨b, eC, hb⟩ := gapC_ok (C := CC fu (m - 1)) (p := p) (s3 := .non) (s4 := .non) (s5 := .non) hl hw
  have hwl := hw.le
  have hll : last.length ≤ 12 := by
    rcases hl with q | q
    · subst q; decide
    · exact q.le
  have gs : gSl (.str (mk w)) none (some 1) = some (.val (.str (mk (w.take 1)))) := gSl_to (b := 1) (by omega)
  have ht : (w.take 1).length ≤ 1 := List.length_take_le _ _
  have ga := gAdd_mk (a := last) (b := w.take 1) (by omega)
  have eJ : gapJ (CC fu (m - 1)) [.bor p, .val (.str (mk last)), .val (.str (mk w)), .val (.bl b), .non, .non] = .ok (.val (.bl (isTwo (mk (last ++ w.take 1))))) [.bor p, .val (.str (mk last)), .val (.str (mk w)), .val (.bl b), .non, .non] := by
    have g2 := gIn_two (mk (last ++ w.take 1))
    unfold twoDs at g2
    simp [gapJ, gs, ga, g2]
  have hsep : b = true → isTwo (mk (last ++ w.take 1)) = false → Sep last w := by
    intro h1 h2 c r e
    refine ⟨hb h1 c r e, ?_⟩
    rw [e] at h2
    exact h2
  obtain ⟨z, p1, e1, z0, z1, hp1⟩ := dr (fu := fu) (m := m - 1) (by omega) n p 9 hp (by omega) (by decide) (by decide)
  rw [run_m (F := ⟨3, 6, F__law_gap⟩) rfl (by omega), bodyRun_eq, gap_eq]
  generalize isTwo (mk (last ++ w.take 1)) = j at *
  by_cases c0 : z = 0
  · subst c0
    exact ⟨[10], p1, by simp [eC, eJ, gapE, e1, s_nl], .inl (.inl rfl), hp1.le (by omega)⟩
  by_cases c1 : z = 1
  · subst c1
    obtain ⟨d, p2, e2, hd, hp2⟩ := pk8 (fu := fu) (m := m - 1) (by omega) (n + 1) p1 [.str " # out x; }\n", .str "  ", .str "\n\n  ", .str " #\n"] hp1 (by omega) (by simp) (by simp)
    have : ∃ g, d = wd g ∧ Gap0 g := by
      simp only [List.mem_cons, List.not_mem_nil, or_false] at hd
      rcases hd with q | q | q | q <;> subst q
      · exact ⟨_, s_g0, .inr (.inr (.inl rfl))⟩
      · exact ⟨_, s_g1, .inr (.inr (.inr (.inl rfl)))⟩
      · exact ⟨_, s_g2, .inr (.inr (.inr (.inr (.inl rfl))))⟩
      · exact ⟨_, s_g3, .inr (.inr (.inr (.inr (.inr rfl))))⟩
    obtain ⟨g, rfl, hg⟩ := this
    unfold wd at e2
    exact ⟨g, p2, by simp [eC, eJ, gapE, e1, e2], .inl hg, hp2.le (by omega)⟩
  have b0 : (z == 0) = false := by simpa using c0
  have b1 : (z == 1) = false := by simpa using c1
  cases b with
  | false => exact ⟨[32], p1, by simp [eC, eJ, gapE, e1, b0, b1, s_sp], .inl (.inr (.inl rfl)), hp1.le (by omega)⟩
  | true =>
    cases j with
    | true => exact ⟨[32], p1, by simp [eC, eJ, gapE, e1, b0, b1, s_sp], .inl (.inr (.inl rfl)), hp1.le (by omega)⟩
    | false =>
      by_cases c4 : z < 4
      · exact ⟨[], p1, by simp [eC, eJ, gapE, e1, b0, b1, s_em, c4], .inr ⟨rfl, hsep rfl rfl⟩, hp1.le (by omega)⟩
      · exact ⟨[32], p1, by simp [eC, eJ, gapE, e1, b0, b1, s_sp, c4], .inl (.inr (.inl rfl)), hp1.le (by omega)⟩
/-! ### a loose text -/
abbrev looseB : Sg := (sPar [3, 4] (sKCons 1 (sOp2 gAdd (sOp2 gAdd (sVar 3) (sCall 29 (sKCons 2 (sVar 0) (sKCons 0 (sVar 4) (sKCons 0 (sVar 2) sKNil))))) (sVar 2)) (sKCons 1 (sVar 2) sKNil)))
theorem loose_loop {m : Nat} (hm : 3 ≤ m) (tree : D) : ∀ (wl : List (List Nat)) (t last : List Nat) (n : Nat) (p : D) (s2 : Slot), (∀ w ∈ wl, GoodWd w) → Pre t last → (last = [] ∨ GoodWd last) → (∀ c ∈ t, c < 128) → t.length + 24 * wl.length ≤ 1000000 → IsPen n p → n + 2 * wl.length < 900000000 → free s2 = true →
    ∃ t' last' p' s2', forL (CC fu m) (tgN 2) looseB (wl.map wd) [.bor p, .val tree, s2, .val (.str (mk t)), .val (.str (mk last))] = .nx [.bor p', .val tree, s2', .val (.str (mk t')), .val (.str (mk last'))] ∧ Pre t' last' ∧ (∀ c ∈ t', c < 128) ∧ t'.length ≤ t.length + 24 * wl.length ∧ IsPen (n + 2 * wl.length) p'
  | [], t, last, n, p, s2, _, h1, _, h2, _, hp, _, _ => ⟨t, last, p, s2, rfl, h1, h2, by simp, by simpa using hp⟩
  | w :: wl, t, last, n, p, s2, hg, h1, hl, h2, h3, hp, hn, f2 => by
    have gw := hg w List.mem_cons_self
    have lw := gw.le
    rw [List.length_cons] at h3 hn
    obtain ⟨g, p1, e1, hgap, hp1⟩ := gap29 (fu := fu) hm hp (by omega) hl gw
    have lg : g.length ≤ 12 ∧ ∀ c ∈ g, c < 128 := by
      rcases hgap with q | q
      · exact gap_len q
      · rw [q.1]; exact ⟨by decide, fun _ h => nomatch h⟩
    have a1 := gAdd_mk (a := t) (b := g) (by omega)
    have a2 := gAdd_mk (a := t ++ g) (b := w) (by rw [List.length_append]; omega)
    obtain ⟨t', last', p', s2', e2, q1, q2, q3, q4⟩ := loose_loop hm tree wl ((t ++ g) ++ w) w (n + 2) p1 (.val (wd w)) (fun x hx => hg x (List.mem_cons_of_mem _ hx)) (by rw [List.append_assoc]; exact h1.step gw hgap) (.inr gw) (fun c hc => by
      rcases List.mem_append.mp hc with z | z
      · rcases List.mem_append.mp z with z | z
        · exact h2 c z
        · exact lg.2 c z
      · exact gw.asc c z) (by rw [List.length_append, List.length_append]; omega) hp1 (by omega) rfl
    refine ⟨t', last', p', s2', ?_, q1, q2, by rw [List.length_append, List.length_append] at q3; rw [List.length_cons]; omega, q4.le (by rw [List.length_cons]; omega)⟩
    rw [← e2, List.map_cons]
    conv => lhs; unfold forL
    unfold wd
    simp only [tgN_eq, setR_eq, List.getElem?_cons_succ, List.getElem?_cons_zero, f2, if_true, List.set_cons_succ, List.set_cons_zero]
    have eB : looseB (CC fu m) [.bor p, .val tree, .val (.str (mk w)), .val (.str (mk t)), .val (.str (mk last))] = .nx [.bor p1, .val tree, .val (.str (mk w)), .val (.str (mk ((t ++ g) ++ w))), .val (.str (mk w))] := by
      simp only [List.append_assoc] at a2
      simp [e1, a1, a2]
    rw [eB]
theorem s_end : (D.str (Str.ofString " # the end")) = wd tailR := by kernel_rfl
theorem loose30 {m n : Nat} {p t : D} (hm : 42 ≤ m) (hp : IsPen n p) (hn : n < 200000000) (ht : IsTree t) : ∃ l p', run fu m 30 [.bor p, .val t] = .ok (.val (.str (mk l))) [.bor p', .non] ∧ TextOk l ∧ IsPen (n + 100000) p' := by
  obtain ⟨ws, ps', e, hw, s1, p1⟩ := words27 (fu := fu) (m := m - 1) (by omega) (.inr ⟨p, rfl, hp⟩) (by omega) ht
  obtain ⟨wl, rfl, hg, hl⟩ := hw.list
  cases s1 with
  | bor _ q =>
    obtain ⟨q', hq, hp1⟩ : ∃ q', Slot.bor q = .bor q' ∧ IsPen (n + 20000) q' := by
      rcases p1 with z | z
      · cases z
      · exact z
    cases hq
    obtain ⟨l, last', p2, s2', e2, h1, h2, h3, hp2⟩ := loose_loop (fu := fu) (m := m - 1) (by omega) t wl [] [] (n + 20000) q .non hg .nil (.inl rfl) (fun _ h => nomatch h) (by rw [List.length_nil]; omega) hp1 (by omega) rfl
    rw [List.length_nil] at h3
    obtain ⟨d, p3, e3, hd, hp3⟩ := pk8 (fu := fu) (m := m - 1) (by omega) _ p2 [.str "", .str "", .str "\n", .str " ", .str " # the end", .str "#"] hp2 (by omega) (by simp) (by simp)
    have : ∃ g, d = wd g ∧ Tail0 g := by
      simp only [List.mem_cons, List.not_mem_nil, or_false] at hd
      rcases hd with q | q | q | q | q | q <;> subst q
      · exact ⟨_, s_em, .inl rfl⟩
      · exact ⟨_, s_em, .inl rfl⟩
      · exact ⟨_, s_nl, .inr (.inl rfl)⟩
      · exact ⟨_, s_sp, .inr (.inr (.inl rfl))⟩
      · exact ⟨_, s_end, .inr (.inr (.inr (.inl rfl)))⟩
      · exact ⟨_, s_rem, .inr (.inr (.inr (.inr rfl)))⟩
    obtain ⟨g, rfl, hgt⟩ := this
    have lg := tail_len hgt
    have a1 := gAdd_mk (a := l) (b := g) (by omega)
    refine ⟨l ++ g, p3, ?_, ⟨by rw [List.length_append]; omega, fun c hc => ?_, h1.done hgt⟩, hp3.le (by omega)⟩
    · rw [run_m (F := ⟨2, 5, F__law_loose_text⟩) rfl (by omega), bodyRun_eq]
      unfold looseB at e2
      unfold wd at e3
      rw [show (mk [] : Str) = Str.ofString "" by decide +kernel] at e2
      simp [-x_sPar, F__law_loose_text, x_sPar [3, 4] (sKCons 1 (sC (.str "")) (sKCons 1 (sC (.str "")) sKNil)), e, e2, e3, a1]
    · rcases List.mem_append.mp hc with z | z
      · exact h2 c z
      · exact lg.2 c z
end
end K44

/-! K44B5 -/
namespace K44
open PySem PySem.Spec PyProof.Rows L2 Kn
/-! ### the rows that are told -/
def IsRw (d : D) : Prop := ∃ s w a b, d = row s w a b ∧ PyData.strOk s = true ∧ PyData.strOk w = true
theorem strOk_mk {w : List Nat} (h : ∀ c ∈ w, c < 1114112) : PyData.strOk (mk w) = true := by
  unfold PyData.strOk
  show (w.toArray.all fun x => decide (x < 1114112)) = true
  rw [List.all_toArray, List.all_eq_true]
  intro c hc
  exact decide_eq_true (h c hc)
theorem tok1_ok {c : Nat} {r : List Nat} (h : ∀ x ∈ c :: r, x < 1114112) : PyData.strOk (tok1 (c :: r)).2.1 = true ∧ PyData.strOk (tok1 (c :: r)).2.2 = true := by
  have e1 : PyData.strOk (Str.ofString "bad") = true := by kernel_rfl
  have e2 : PyData.strOk (Str.ofString "word") = true := by kernel_rfl
  have e3 : PyData.strOk (Str.ofString "own") = true := by kernel_rfl
  have e4 : PyData.strOk (Str.ofString "name") = true := by kernel_rfl
  have e5 : PyData.strOk (Str.ofString "number") = true := by kernel_rfl
  have e6 : PyData.strOk (Str.ofString "sign") = true := by kernel_rfl
  have hs : PyData.strOk (mk (spanS (c :: r))) = true := strOk_mk fun x hx => h x ((List.takeWhile_prefix (l := c :: r) fun c => decide (c ∈ signsL)).subset hx)
  have hd : PyData.strOk (mk (spanD (c :: r))) = true := strOk_mk fun x hx => h x ((List.takeWhile_prefix (l := c :: r) fun c => decide (c ∈ digitsL)).subset hx)
  have ht : PyData.strOk (mk ((c :: r).take 2)) = true := strOk_mk fun x hx => h x (List.mem_of_mem_take hx)
  have h1 : PyData.strOk (mk [c]) = true := strOk_mk fun x hx => h x (by rw [List.mem_singleton.mp hx]; exact List.mem_cons_self)
  unfold tok1
  dsimp only
  split
  · split
    · exact ⟨e1, e2⟩
    · refine ⟨?_, hs⟩
      dsimp only
      split
      · exact e3
      · exact e4
  · split
    · split
      · exact ⟨e1, e5⟩
      · exact ⟨e5, hd⟩
    · split
      · exact ⟨e6, ht⟩
      · split
        · exact ⟨e6, h1⟩
        · exact ⟨e1, e6⟩
theorem toks_rows : ∀ (f line col : Nat) (cs : List Nat), (∀ c ∈ cs, c < 1114112) → ∀ d ∈ toks f line col cs, IsRw d
  | 0, _, _, _, _, d, hd => nomatch hd
  | f + 1, line, col, [], _, d, hd => by
    have hd : d ∈ [row "end" "" line col] := hd
    rw [List.mem_singleton.mp hd]
    exact ⟨_, _, _, _, rfl, by kernel_rfl, by kernel_rfl⟩
  | f + 1, line, col, c :: r, h, d, hd => by
    unfold toks at hd
    dsimp only at hd
    have hr : ∀ x ∈ r, x < 1114112 := fun x hx => h x (List.mem_cons_of_mem _ hx)
    split at hd
    · exact toks_rows f _ _ r hr d hd
    · split at hd
      · exact toks_rows f _ _ r hr d hd
      · split at hd
        · exact toks_rows f _ _ _ (fun x hx => h x (List.mem_of_mem_drop hx)) d hd
        · have ho := tok1_ok h
          split at hd
          · rw [List.mem_singleton.mp hd]
            exact ⟨_, _, _, _, rfl, ho.1, ho.2⟩
          · rcases List.mem_cons.mp hd with q | q
            · rw [q]; exact ⟨_, _, _, _, rfl, ho.1, ho.2⟩
            · exact toks_rows f _ _ _ (fun x hx => h x (List.mem_of_mem_drop hx)) d q
theorem T_rows {cs : List Nat} (h : ∀ c ∈ cs, c < 1114112) : ∀ d ∈ T 0 0 cs, IsRw d := toks_rows _ _ _ cs h
theorem IsRw.cl {d : D} (h : IsRw d) : cln d = true ∧ dep d ≤ 1 := by
  obtain ⟨s, w, a, b, rfl, h1, h2⟩ := h
  refine ⟨?_, Nat.le_refl 1⟩
  show clns [.str s, .str w, .int (a : Int), .int (b : Int)] = true
  exact clns_all (by simp [cln, h1, h2])
theorem IsRw.self {d : D} (h : IsRw d) : eqD d d = true := by
  obtain ⟨s, w, a, b, rfl, _⟩ := h
  simp [row, eqD, eqDs]
theorem eqDs_self : ∀ {ds : List D}, (∀ d ∈ ds, eqD d d = true) → eqDs ds ds = true
  | [], _ => rfl
  | d :: ds, h => by
    unfold eqDs
    rw [h d List.mem_cons_self, eqDs_self fun x hx => h x (List.mem_cons_of_mem _ hx)]
    rfl
theorem T_self {cs : List Nat} (h : ∀ c ∈ cs, c < 1114112) : gNe (.tup (T 0 0 cs)) (.tup (T 0 0 cs)) = some (.val (.bl false)) := by
  have hr := T_rows h
  have h1 : okD (.tup (T 0 0 cs)) = true := okD_of (k := 2) (clns_all fun d hd => (hr d hd).cl.1) (Nat.succ_le_succ (deps_le fun d hd => (hr d hd).cl.2)) (by decide)
  show (if okD (.tup (T 0 0 cs)) = true ∧ okD (.tup (T 0 0 cs)) = true then some (R.val (.bl (!eqDs (T 0 0 cs) (T 0 0 cs)))) else none) = _
  rw [if_pos ⟨h1, h1⟩, eqDs_self fun d hd => (hr d hd).self]
  rfl
theorem toks_len : ∀ (f line col : Nat) (cs : List Nat), (toks f line col cs).length ≤ cs.length + 1
  | 0, _, _, _ => Nat.zero_le _
  | f + 1, line, col, [] => Nat.le_refl _
  | f + 1, line, col, c :: r => by
    unfold toks
    dsimp only
    split
    · have := toks_len f (line + 1) 0 r; rw [List.length_cons]; omega
    · split
      · have := toks_len f line (col + 1) r; rw [List.length_cons]; omega
      · split
        · rename_i h
          have := toks_len f line (col + (remk (c :: r)).length) ((c :: r).drop (remk (c :: r)).length)
          rw [List.length_drop] at this
          omega
        · split
          · rw [List.length_cons, List.length_cons]; simp
          · rename_i h
            have := toks_len f line (col + (tok1 (c :: r)).2.2.length) ((c :: r).drop (tok1 (c :: r)).2.2.length)
            have hp := tok1_pos (c := c) (r := r) (by simpa using h)
            rw [List.length_drop] at this
            rw [List.length_cons]
            rw [List.length_cons] at this ⊢
            omega
theorem asBls_all : ∀ {ds : List D}, (∀ d ∈ ds, d = .bl true) → ∃ bs, asBls ds = some bs ∧ bs.all id = true
  | [], _ => ⟨[], rfl, rfl⟩
  | d :: ds, h => by
    obtain ⟨bs, e, h2⟩ := asBls_all fun x hx => h x (List.mem_cons_of_mem _ hx)
    refine ⟨true :: bs, ?_, by simpa using h2⟩
    rw [h d List.mem_cons_self]
    unfold asBls
    rw [e]
    rfl
section
variable {fu : Nat}
theorem int10 {m : Nat} (hm : 1 ≤ m) (a : Int) : run fu m 10 [.val (.int a)] = .ok (.val (.bl true)) [.non] := by
  rw [run_m (F := ⟨1, 1, F__law_is_int⟩) rfl hm, bodyRun_eq]
  have e1 : gIsi ["int"] (.int a) = some (.val (.bl true)) := rfl
  have e2 : gIsi ["bool"] (.int a) = some (.val (.bl false)) := rfl
  simp [F__law_is_int, e1, e2]
theorem told33 {m : Nat} (hm : 2 ≤ m) {cs : List Nat} (h : ∀ c ∈ cs, c < 1114112) (hl : cs.length ≤ 1000000) : run fu m 33 [.val (.tup (T 0 0 cs))] = .ok (.val (.bl true)) [.non] := by
  have hr := T_rows h
  have hlen : (T 0 0 cs).length ≤ cs.length + 1 := toks_len _ _ _ _
  generalize T 0 0 cs = ds at *
  have e0 : gIsi ["tuple"] (.tup ds) = some (.val (.bl true)) := rfl
  have hmap := map_ok (C := CC fu (m - 1)) (t := tgN 1) (elt := (sAndV (sOp1 (gIsi ["tuple"]) (sVar 1)) (sAndV (sOp2 gEq (sBi gLen (sRCons (sVar 1) sRNil)) (sC (.int 4))) (sAndV (sCall 10 (sKCons 0 (sOp2 gIdx (sVar 1) (sC (.int 2))) sKNil)) (sCall 10 (sKCons 0 (sOp2 gIdx (sVar 1) (sC (.int 3))) sKNil)))))) (vs := [1]) (fun _ => .bl true) [.val (.tup ds), .non] ds [] (fun d hd => by
    obtain ⟨s, w, a, b, rfl, _⟩ := hr d hd
    refine ⟨[.val (.tup ds), .val (row s w a b)], by simp, ?_, by simp [wipeE]⟩
    have i1 := int10 (fu := fu) (m := m - 1) (by omega) (a : Int)
    have i2 := int10 (fu := fu) (m := m - 1) (by omega) (b : Int)
    have e1 : gIsi ["tuple"] (.tup [.str s, .str w, .int (a : Int), .int (b : Int)]) = some (.val (.bl true)) := rfl
    simp [row_eq, e1, atI_2, atI_3, i1, i2]) (by simp; omega)
  rw [List.nil_append] at hmap
  obtain ⟨bs, e2, e3⟩ := asBls_all (ds := ds.map fun _ => D.bl true) (by simp)
  have e4 : gAll [.lst (ds.map fun _ => D.bl true)] = some (.val (.bl true)) := by
    show (asBls _).map _ = _
    rw [e2, Option.map_some, e3]
  have hl2 : (ds.map fun _ => D.bl true).length ≤ 16777216 := by simp; omega
  rw [run_m (F := ⟨1, 2, F__law_told_ok⟩) rfl (by omega), bodyRun_eq]
  generalize (ds.map fun _ => D.bl true) = bl at hmap e4 hl2
  simp [-x_sCall, F__law_told_ok, e0, sLc, plainAt, wipeE, restoreE, hmap, e4]
/-! ### a text is spoilt -/
def spW : List (List Nat) := [[95], [33], [61], [58], [60], [62], [9], [48], [49, 50], [35], [10], [32], [97], [90, 57], [44], [46], List.replicate 13 120, List.replicate 13 49, [48, 48, 55], [45], [123], [33, 61], List.replicate 12 57, List.replicate 12 98, [60, 61], [62, 61], [60, 61, 61]]
theorem spW_ok : ∀ w ∈ spW, w.length ≤ 13 ∧ ∀ c ∈ w, c < 128 := by decide +kernel
def spL : Sm := (sLst (sCons (sC (.str "_")) (sCons (sC (.str "!")) (sCons (sC (.str "=")) (sCons (sC (.str ":")) (sCons (sC (.str "<")) (sCons (sC (.str ">")) (sCons (sC (.str "\t")) (sCons (sC (.str "0")) (sCons (sC (.str "12")) (sCons (sC (.str "#")) (sCons (sC (.str "\n")) (sCons (sC (.str " ")) (sCons (sC (.str "a")) (sCons (sC (.str "Z9")) (sCons (sC (.str ",")) (sCons (sC (.str ".")) (sCons (sOp2 gMul (sC (.str "x")) (sC (.int 13))) (sCons (sOp2 gMul (sC (.str "1")) (sC (.int 13))) (sCons (sC (.str "007")) (sCons (sC (.str "-")) (sCons (sC (.str "{")) (sCons (sC (.str "!=")) (sCons (sOp2 gMul (sC (.str "9")) (sC (.int 12))) (sCons (sOp2 gMul (sC (.str "b")) (sC (.int 12))) (sCons (sC (.str "<=")) (sCons (sC (.str ">=")) (sCons (sC (.str "<==")) sNil))))))))))))))))))))))))))))
theorem spL_ok (C : Cc) (S : Kn.Env) : spL C S = .ok (.fr (.lst (spW.map wd))) S := by kernel_rfl
def spE : Sg := (sSeq (sIf (sB (sOp2 gEq (sVar 4) (sC (.int 0)))) (sRet (sOp2 gAdd (sSl (sVar 1) sNoP (sPart (sVar 3))) (sSl (sVar 1) (sPart (sOp2 gAdd (sVar 3) (sC (.int 1)))) sNoP))) sSkip)
  (sSeq (sIf (sB (sOp2 gEq (sVar 4) (sC (.int 1)))) (sRet (sOp2 gAdd (sOp2 gAdd (sSl (sVar 1) sNoP (sPart (sVar 3))) (sVar 2)) (sSl (sVar 1) (sPart (sOp2 gAdd (sVar 3) (sC (.int 1)))) sNoP))) sSkip)
  (sRet (sOp2 gAdd (sOp2 gAdd (sSl (sVar 1) sNoP (sPart (sVar 3))) (sVar 2)) (sSl (sVar 1) (sPart (sVar 3)) sNoP)))))
theorem spoilt_eq : F__law_spoilt = (sSeq (sPar [3, 4] (sKCons 1 (sCall 7 (sKCons 2 (sVar 0) (sKCons 0 (sOp2 gAdd (sBi gLen (sRCons (sVar 1) sRNil)) (sC (.int 1))) sKNil))) (sKCons 1 (sCall 7 (sKCons 2 (sVar 0) (sKCons 0 (sC (.int 4)) sKNil))) sKNil)))
  (sSeq (sSet 2 (sCall 8 (sKCons 2 (sVar 0) (sKCons 0 spL sKNil)))) spE)) := rfl
theorem spoilt32 {m n : Nat} {p : D} {l : List Nat} (hm : 3 ≤ m) (hp : IsPen n p) (hn : n < 900000000) (hl : l.length ≤ 940000) (ha : ∀ c ∈ l, c < 128) : ∃ l' p', run fu m 32 [.bor p, .val (.str (mk l))] = .ok (.val (.str (mk l'))) [.bor p', .non] ∧ l'.length ≤ l.length + 13 ∧ (∀ c ∈ l', c < 128) ∧ IsPen (n + 3) p' := by
  obtain ⟨z, p1, e1, z0, z1, hp1⟩ := dr (fu := fu) (m := m - 1) (by omega) n p ((l.length : Int) + 1) hp (by omega) (by omega) (log2_small (by omega) (by omega))
  obtain ⟨way, p2, e2, _, _, hp2⟩ := dr (fu := fu) (m := m - 1) (by omega) _ p1 4 hp1 (by omega) (by decide) (by decide)
  obtain ⟨d, p3, e3, hd, hp3⟩ := pk8 (fu := fu) (m := m - 1) (by omega) _ p2 (spW.map wd) hp2 (by omega) (by decide) (by decide)
  obtain ⟨w, hw, hwd⟩ := List.mem_map.mp hd
  obtain ⟨lw, aw⟩ := spW_ok w hw
  have hwd' : d = .str (mk w) := hwd.symm
  clear hwd hd
  subst hwd'
  obtain ⟨a, rfl⟩ : ∃ a : Nat, z = (a : Int) := ⟨z.toNat, by omega⟩
  have gl := gLen_mk (a := l) (by omega)
  have g1 := gSl_to (l := l) (b := a) (by omega)
  have g2 := gSl_from (l := l) (a := a) (by omega)
  have g3 : gSl (.str (mk l)) (some ((a : Int) + 1)) none = some (.val (.str (mk (l.drop (a + 1))))) := gSl_from (l := l) (a := a + 1) (by omega)
  have t1 : (l.take a).length ≤ a ∧ (l.take a).length ≤ l.length := ⟨List.length_take_le _ _, List.length_take_le' _ _⟩
  have t2 : (l.drop a).length = l.length - a := List.length_drop
  have t3 : (l.drop (a + 1)).length = l.length - (a + 1) := List.length_drop
  have m1 : ∀ c ∈ l.take a, c < 128 := fun c hc => ha c (List.mem_of_mem_take hc)
  have m2 : ∀ c ∈ l.drop a, c < 128 := fun c hc => ha c (List.mem_of_mem_drop hc)
  have m3 : ∀ c ∈ l.drop (a + 1), c < 128 := fun c hc => ha c (List.mem_of_mem_drop hc)
  have ez := spL_ok (CC fu (m - 1)) [.bor p2, .val (.str (mk l)), .non, .val (.int (a : Int)), .val (.int way)]
  rw [run_m (F := ⟨2, 5, F__law_spoilt⟩) rfl (by omega), bodyRun_eq, spoilt_eq]
  generalize spL = sp at *
  generalize spW.map wd = sw at *
  generalize l.take a = x1 at *
  generalize l.drop a = x2 at *
  generalize l.drop (a + 1) = x3 at *
  by_cases h0 : way = 0
  · subst h0
    have a1 := gAdd_mk (a := x1) (b := x3) (by omega)
    refine ⟨x1 ++ x3, p3, by simp [gl, e1, e2, ez, e3, spE, sSl, sPart, g1, g3, a1], by rw [List.length_append]; omega, fun c hc => ?_, by simpa using hp3⟩
    rcases List.mem_append.mp hc with q | q
    · exact m1 c q
    · exact m3 c q
  have b0 : (way == 0) = false := by simpa using h0
  have a1 := gAdd_mk (a := x1) (b := w) (by omega)
  by_cases h1 : way = 1
  · subst h1
    have a2 := gAdd_mk (a := x1 ++ w) (b := x3) (by rw [List.length_append]; omega)
    refine ⟨(x1 ++ w) ++ x3, p3, ?_, by rw [List.length_append, List.length_append]; omega, fun c hc => ?_, by simpa using hp3⟩
    · rw [List.append_assoc] at a2 ⊢
      simp [gl, e1, e2, ez, e3, spE, sSl, sPart, g1, g3, a1, a2]
    · rcases List.mem_append.mp hc with q | q
      · rcases List.mem_append.mp q with q | q
        · exact m1 c q
        · exact aw c q
      · exact m3 c q
  have b1 : (way == 1) = false := by simpa using h1
  have a2 := gAdd_mk (a := x1 ++ w) (b := x2) (by rw [List.length_append]; omega)
  refine ⟨(x1 ++ w) ++ x2, p3, ?_, by rw [List.length_append, List.length_append]; omega, fun c hc => ?_, by simpa using hp3⟩
  · rw [List.append_assoc] at a2 ⊢
    simp [gl, e1, e2, ez, e3, b0, b1, spE, sSl, sPart, g1, g2, a1, a2]
  · rcases List.mem_append.mp hc with q | q
    · rcases List.mem_append.mp q with q | q
      · exact m1 c q
      · exact aw c q
    · exact m2 c q
end
end K44

/-! K44B6 -/
namespace K44
open PySem PySem.Spec PyProof.Rows L2 Kn
/-! ### the law -/
def inB : Sg := (sSeq (sSet 6 (sCall 32 (sKCons 2 (sVar 1) (sKCons 0 (sVar 6) sKNil))))
  (sSeq (sSet 7 (sCall 5 (sKCons 0 (sVar 6) sKNil)))
  (sIf (sOrT (sB (sOp2 gNe (sVar 7) (sBi gTuple (sRCons (sCall 31 (sKCons 0 (sVar 6) sKNil)) sRNil)))) (sNotT (sB (sCall 33 (sKCons 0 (sVar 7) sKNil))))) (sRet (sC (.bl false))) sSkip)))
def lapB : Sg := (sSeq (sSet 6 (sIte (sB (sOp2 gGt (sVar 3) (sC (.int 0)))) (sCall 30 (sKCons 2 (sVar 1) (sKCons 0 (sVar 2) sKNil))) (sCall 28 (sKCons 0 (sVar 2) sKNil))))
  (sSeq (sSet 7 (sCall 5 (sKCons 0 (sVar 6) sKNil)))
  (sSeq (sIf (sOrT (sB (sOp2 gNe (sVar 7) (sBi gTuple (sRCons (sCall 31 (sKCons 0 (sVar 6) sKNil)) sRNil)))) (sOrT (sNotT (sB (sCall 33 (sKCons 0 (sVar 7) sKNil)))) (sB (sOp2 gNe (sOp2 gIdx (sOp2 gIdx (sVar 7) (sOp1 gNeg (sC (.int 1)))) (sC (.int 0))) (sC (.str "end")))))) (sRet (sC (.bl false))) sSkip)
  (sFor (iRg (sRCons (sC (.int 3)) sRNil)) (tgN 8) inB))))
def rowW : List (List Nat) := [[97], [98], [95], [48], [57], [32], [123], [125], [91], [93], [40], [41], [58], [59], [44], [43], [45], [42], [47], [61], [60], [62], [33], [35], [10], [46], [107, 110, 101, 101], [111, 117, 116], [110, 101, 116]]
theorem rowW_ok : ∀ w ∈ rowW, w.length ≤ 4 ∧ ∀ c ∈ w, c < 128 := by decide +kernel
def rowL : Sm := (sOp2 gAdd (sBi gList (sRCons (sC (.str "ab_09 {}[]():;,+-*/=<>!#\n.")) sRNil)) (sLst (sCons (sC (.str "knee")) (sCons (sC (.str "out")) (sCons (sC (.str "net")) sNil)))))
theorem rowL_ok (C : Cc) (S : Kn.Env) : rowL C S = .ok (.fr (.lst (rowW.map wd))) S := by kernel_rfl
def rowE : Sm := (sCall 8 (sKCons 2 (sVar 1) (sKCons 0 rowL sKNil)))
def badT : D := .tup [.tup [.str "bad", .str "text", .int 0, .int 0]]
def oddB : Sg := (sIf (sB (sOp2 gNe (sCall 5 (sKCons 0 (sVar 5) sKNil)) (sTup (sCons (sTup (sCons (sC (.str "bad")) (sCons (sC (.str "text")) (sCons (sC (.int 0)) (sCons (sC (.int 0)) sNil))))) sNil)))) (sRet (sC (.bl false))) sSkip)
def oddI : Si := (iDat (sLst (sCons (sC .non) (sCons (sC (.int 5)) (sCons (sC (.bl true)) (sCons (sLst (sCons (sC (.str "a")) sNil)) (sCons (sTup (sCons (sC (.str "a")) sNil)) (sCons (sDisp [.inr "a"] (sCons (sC (.int 1)) sNil)) sNil))))))))
def oddDs : List D := [.non, .int 5, .bl true, .lst [.str "a"], .tup [.str "a"], .dct [.inr "a"] [.int 1]]
theorem oddI_ok (C : Cc) (S : Kn.Env) : oddI C S = .ok oddDs S := by kernel_rfl
def endE : Sm := (sAndV (sOp2 gEq (sCall 5 (sKCons 0 (sC (.str "")) sKNil)) (sTup (sCons (sTup (sCons (sC (.str "end")) (sCons (sC (.str "")) (sCons (sC (.int 0)) (sCons (sC (.int 0)) sNil))))) sNil))) (sAndV (sOp2 gEq (sCall 5 (sKCons 0 (sC (.str "a\n # b")) sKNil)) (sTup (sCons (sTup (sCons (sC (.str "name")) (sCons (sC (.str "a")) (sCons (sC (.int 0)) (sCons (sC (.int 0)) sNil))))) (sCons (sTup (sCons (sC (.str "end")) (sCons (sC (.str "")) (sCons (sC (.int 1)) (sCons (sC (.int 4)) sNil))))) sNil)))) (sOp2 gEq (sCall 5 (sKCons 0 (sC (.str "x!=0")) sKNil)) (sTup (sCons (sTup (sCons (sC (.str "name")) (sCons (sC (.str "x")) (sCons (sC (.int 0)) (sCons (sC (.int 0)) sNil))))) (sCons (sTup (sCons (sC (.str "sign")) (sCons (sC (.str "!=")) (sCons (sC (.int 0)) (sCons (sC (.int 1)) sNil))))) (sCons (sTup (sCons (sC (.str "number")) (sCons (sC (.str "0")) (sCons (sC (.int 0)) (sCons (sC (.int 3)) sNil))))) (sCons (sTup (sCons (sC (.str "end")) (sCons (sC (.str "")) (sCons (sC (.int 0)) (sCons (sC (.int 4)) sNil))))) sNil))))))))
def lawR : Sg := (sSeq (sSet 4 (sMt gJoin (sC (.str "")) (sLc (iRg (sRCons (sCall 7 (sKCons 2 (sVar 1) (sKCons 0 (sC (.int 30)) sKNil))) sRNil)) (tgN 9) sYes rowE [9])))
  (sSeq (sIf (sB (sOp2 gNe (sCall 5 (sKCons 0 (sVar 4) sKNil)) (sBi gTuple (sRCons (sCall 31 (sKCons 0 (sVar 4) sKNil)) sRNil)))) (sRet (sC (.bl false))) sSkip)
  (sSeq (sFor oddI (tgN 5) oddB)
  (sRet endE))))
theorem law_eq : F_law = (sSeq (sSet 1 (sCall 6 (sKCons 0 (sVar 0) sKNil)))
  (sSeq (sSet 2 (sCall 21 (sKCons 2 (sVar 1) sKNil)))
  (sSeq (sFor (iRg (sRCons (sC (.int 4)) sRNil)) (tgN 3) lapB) lawR))) := rfl
section
variable {fu : Nat}
theorem e5 (hfu : 100000000 ≤ fu) {l : List Nat} (h : l.length ≤ 1000000) (ha : ∀ c ∈ l, c < 128) : run fu 59 5 [.val (.str (mk l))] = .ok (.val (.tup (T 0 0 l))) [.non] := words_of_ok hfu 54 l h fun c hc => by have := ha c hc; omega
theorem e31 (hfu : 100000000 ≤ fu) {l : List Nat} (h : l.length ≤ 1000000) (ha : ∀ c ∈ l, c < 128) : run fu 59 31 [.val (.str (mk l))] = .ok (.fr (.lst (T 0 0 l))) [.non] := law_words_ok hfu 58 l h fun c hc => by have := ha c hc; omega
theorem e33 {l : List Nat} (h : l.length ≤ 1000000) (ha : ∀ c ∈ l, c < 128) : run fu 59 33 [.val (.tup (T 0 0 l))] = .ok (.val (.bl true)) [.non] := told33 (by omega) (fun c hc => by have := ha c hc; omega) h
theorem eT {l : List Nat} (ha : ∀ c ∈ l, c < 128) : gNe (.tup (T 0 0 l)) (.tup (T 0 0 l)) = some (.val (.bl false)) := T_self fun c hc => by have := ha c hc; omega
theorem in_turn (hfu : 100000000 ≤ fu) {n : Nat} {p t : D} {l : List Nat} {s0 s3 s4 s5 s7 s8 s9 : Slot} (hp : IsPen n p) (hn : n < 800000000) (hl : l.length ≤ 940000) (ha : ∀ c ∈ l, c < 128) (f7 : free s7 = true) :
    ∃ l' p', inB (CC fu 59) [s0, .own p, .val t, s3, s4, s5, .val (.str (mk l)), s7, s8, s9] = .nx [s0, .own p', .val t, s3, s4, s5, .val (.str (mk l')), .val (.tup (T 0 0 l')), s8, s9] ∧ l'.length ≤ l.length + 13 ∧ (∀ c ∈ l', c < 128) ∧ IsPen (n + 3) p' := by
  obtain ⟨l', p', e, hl', ha', hp'⟩ := spoilt32 (fu := fu) (m := 59) (by omega) hp (by omega) hl ha
  have q5 := e5 hfu (l := l') (by omega) ha'
  have q31 := e31 hfu (l := l') (by omega) ha'
  have q33 := e33 (fu := fu) (l := l') (by omega) ha'
  have qT := eT ha'
  refine ⟨l', p', ?_, hl', ha', hp'⟩
  generalize T 0 0 l' = ds at *
  simp [inB, e, q5, q31, q33, qT, f7]
theorem in_loop (hfu : 100000000 ≤ fu) {n : Nat} {p t : D} {l : List Nat} {s0 s3 s4 s5 s7 s8 s9 : Slot} (hp : IsPen n p) (hn : n < 700000000) (hl : l.length ≤ 930000) (ha : ∀ c ∈ l, c < 128) (f7 : free s7 = true) (f8 : free s8 = true) :
    ∃ p' s6' s7' s8', forL (CC fu 59) (tgN 8) inB (rangeD 0 3) [s0, .own p, .val t, s3, s4, s5, .val (.str (mk l)), s7, s8, s9] = .nx [s0, .own p', .val t, s3, s4, s5, s6', s7', s8', s9] ∧ free s6' = true ∧ free s7' = true ∧ free s8' = true ∧ IsPen (n + 9) p' := by
  refine forR_ind (P := fun o => ∃ p' s6' s7' s8', o = .nx [s0, .own p', .val t, s3, s4, s5, s6', s7', s8', s9] ∧ free s6' = true ∧ free s7' = true ∧ free s8' = true ∧ IsPen (n + 9) p')
    (fun i S => ∃ l' p' s7' s8', S = [s0, .own p', .val t, s3, s4, s5, .val (.str (mk l')), s7', s8', s9] ∧ l'.length ≤ 930000 + 13 * i ∧ (∀ c ∈ l', c < 128) ∧ free s7' = true ∧ free s8' = true ∧ IsPen (n + 3 * i) p') ⟨l, p, s7, s8, rfl, by omega, ha, f7, f8, hp⟩ ?_ ?_
  · rintro i S hi ⟨l', p', s7', s8', rfl, hl', ha', f7', f8', hp'⟩
    obtain ⟨l2, p2, e, h1, h2, h3⟩ := in_turn hfu (t := t) (s0 := s0) (s3 := s3) (s4 := s4) (s5 := s5) (s7 := s7') (s8 := .val (.int (i : Int))) (s9 := s9) hp' (by omega) (by omega) ha' f7'
    exact ⟨[s0, .own p', .val t, s3, s4, s5, .val (.str (mk l')), s7', .val (.int (i : Int)), s9], by simp [f8'], .inl ⟨_, .inl e, l2, p2, _, _, rfl, by omega, h2, rfl, rfl, h3.le (by omega)⟩⟩
  · rintro S ⟨l', p', s7', s8', rfl, hl', ha', f7', f8', hp'⟩
    exact ⟨p', _, s7', s8', rfl, rfl, f7', f8', hp'.le (by omega)⟩
theorem atI_end (rows : List D) (x : D) : atI (rows ++ [x]) (-1) = some x := by
  unfold atI ixN
  rw [if_neg (by decide), if_pos (by simp; omega)]
  have : ((-1 : Int) + ((rows ++ [x]).length : Int)).toNat = rows.length := by simp; omega
  simp only [Option.bind_some, this]
  rw [List.getElem?_append_right (Nat.le_refl _), Nat.sub_self]
  rfl
theorem ne_end : gNe (.str "end") (.str "end") = some (.val (.bl false)) := by kernel_rfl
theorem rg3 : rgOk 3 := by unfold rgOk; decide
theorem rg4 : rgOk 4 := by unfold rgOk; decide
theorem lap_turn (hfu : 100000000 ≤ fu) {n i : Nat} {p t : D} {s0 s4 s5 s6 s7 s8 s9 : Slot} (ht : IsTree t) (hp : IsPen n p) (hn : n < 100000000) (f6 : free s6 = true) (f7 : free s7 = true) (f8 : free s8 = true) :
    ∃ p' s6' s7' s8', lapB (CC fu 59) [s0, .own p, .val t, .val (.int (i : Int)), s4, s5, s6, s7, s8, s9] = .nx [s0, .own p', .val t, .val (.int (i : Int)), s4, s5, s6', s7', s8', s9] ∧ free s6' = true ∧ free s7' = true ∧ free s8' = true ∧ IsPen (n + 100010) p' := by
  have key : ∀ (l : List Nat) (p1 : D), TextOk l → IsPen (n + 100000) p1 → (sIte (sB (sOp2 gGt (sVar 3) (sC (.int 0)))) (sCall 30 (sKCons 2 (sVar 1) (sKCons 0 (sVar 2) sKNil))) (sCall 28 (sKCons 0 (sVar 2) sKNil))) (CC fu 59) [s0, .own p, .val t, .val (.int (i : Int)), s4, s5, s6, s7, s8, s9] = .ok (.val (.str (mk l))) [s0, .own p1, .val t, .val (.int (i : Int)), s4, s5, s6, s7, s8, s9] →
      ∃ p' s6' s7' s8', lapB (CC fu 59) [s0, .own p, .val t, .val (.int (i : Int)), s4, s5, s6, s7, s8, s9] = .nx [s0, .own p', .val t, .val (.int (i : Int)), s4, s5, s6', s7', s8', s9] ∧ free s6' = true ∧ free s7' = true ∧ free s8' = true ∧ IsPen (n + 100010) p' := by
    rintro l p1 ⟨hl, ha, hends⟩ hp1 e
    have q5 := e5 hfu (l := l) (by omega) ha
    have q31 := e31 hfu (l := l) (by omega) ha
    have q33 := e33 (fu := fu) (l := l) (by omega) ha
    have qT := eT ha
    obtain ⟨rows, a, b, hrows⟩ := hends 0 0
    have hend : atI (T 0 0 l) (-1) = some (row "end" "" a b) := by rw [hrows]; exact atI_end _ _
    have hz : gIdx (row "end" "" a b) (.int 0) = some (.val (.str "end")) := by simp [row_eq, atI_0]
    obtain ⟨p', s6', s7', s8', el, g6, g7, g8, hp'⟩ := in_loop hfu (t := t) (s0 := s0) (s3 := .val (.int (i : Int))) (s4 := s4) (s5 := s5) (s7 := .val (.tup (T 0 0 l))) (s8 := s8) (s9 := s9) hp1 (by omega) hl ha rfl f8
    refine ⟨p', s6', s7', s8', ?_, g6, g7, g8, hp'.le (by omega)⟩
    rw [← el]
    clear hrows hends el
    generalize T 0 0 l = ds at *
    simp [-x_sIte, lapB, e, f6, f7, q5, q31, q33, qT, hend, hz, ne_end, rg3]
  rcases Nat.eq_zero_or_pos i with hi | hi
  · obtain ⟨l, e, hl⟩ := text28 (fu := fu) (m := 59) (by omega) ht
    have hd : decide (0 < i) = false := by simp; omega
    exact key l p hl (hp.le (by omega)) (by simp [hd, e])
  · obtain ⟨l, p1, e, hl, hp1⟩ := loose30 (fu := fu) (m := 59) (by omega) hp (by omega) ht
    have hd : decide (0 < i) = true := by simp; omega
    exact key l p1 hl hp1 (by simp [hd, e])
theorem laps (hfu : 100000000 ≤ fu) {n : Nat} {p t : D} {s0 s3 s4 s5 s6 s7 s8 s9 : Slot} (ht : IsTree t) (hp : IsPen n p) (hn : n < 90000000) (f3 : free s3 = true) (f6 : free s6 = true) (f7 : free s7 = true) (f8 : free s8 = true) :
    ∃ p' s3' s6' s7' s8', forL (CC fu 59) (tgN 3) lapB (rangeD 0 4) [s0, .own p, .val t, s3, s4, s5, s6, s7, s8, s9] = .nx [s0, .own p', .val t, s3', s4, s5, s6', s7', s8', s9] ∧ IsPen (n + 400040) p' := by
  refine forR_ind (P := fun o => ∃ p' s3' s6' s7' s8', o = .nx [s0, .own p', .val t, s3', s4, s5, s6', s7', s8', s9] ∧ IsPen (n + 400040) p')
    (fun i S => ∃ p' s3' s6' s7' s8', S = [s0, .own p', .val t, s3', s4, s5, s6', s7', s8', s9] ∧ free s3' = true ∧ free s6' = true ∧ free s7' = true ∧ free s8' = true ∧ IsPen (n + 100010 * i) p') ⟨p, s3, s6, s7, s8, rfl, f3, f6, f7, f8, hp⟩ ?_ ?_
  · rintro i S hi ⟨p', s3', s6', s7', s8', rfl, g3, g6, g7, g8, hp'⟩
    obtain ⟨p2, t6, t7, t8, e, h6, h7, h8, hp2⟩ := lap_turn hfu (i := i) (s0 := s0) (s4 := s4) (s5 := s5) (s9 := s9) ht hp' (by omega) g6 g7 g8
    exact ⟨[s0, .own p', .val t, .val (.int (i : Int)), s4, s5, s6', s7', s8', s9], by simp [g3], .inl ⟨_, .inl e, p2, _, t6, t7, t8, rfl, rfl, h6, h7, h8, hp2.le (by omega)⟩⟩
  · rintro S ⟨p', s3', s6', s7', s8', rfl, g3, g6, g7, g8, hp'⟩
    exact ⟨p', s3', s6', s7', s8', rfl, hp'.le (by omega)⟩
/-! ### rows of signs -/
theorem row_loop {t : D} {s0 s3 s6 s7 s8 : Slot} : ∀ (ds : List D) (wl : List (List Nat)) (n : Nat) (p : D), wl.length + ds.length ≤ 30 → (∀ w ∈ wl, w.length ≤ 4 ∧ ∀ c ∈ w, c < 128) → IsPen n p → n + ds.length < 900000000 →
    ∃ (wl' : List (List Nat)) (p' : D), cmL (CC fu 59) (tgN 9) sYes rowE [9] ds (wl.map wd) [s0, .own p, .val t, s3, .non, .non, s6, s7, s8, .non] = .ok (wl'.map wd) [s0, .own p', .val t, s3, .non, .non, s6, s7, s8, .non] ∧ wl'.length ≤ 30 ∧ (∀ w ∈ wl', w.length ≤ 4 ∧ ∀ c ∈ w, c < 128)
  | [], wl, n, p, hl, hw, hp, _ => ⟨wl, p, by simp [cmL], by simpa using hl, hw⟩
  | d :: ds, wl, n, p, hl, hw, hp, hn => by
    rw [List.length_cons] at hl hn
    obtain ⟨d', p1, e1, hd, hp1⟩ := pk8 (fu := fu) (m := 59) (by omega) n p (rowW.map wd) hp (by omega) (by decide) (by decide)
    obtain ⟨w, hw1, hwd⟩ := List.mem_map.mp hd
    have hwd' : d' = wd w := hwd.symm
    clear hwd hd
    subst hwd'
    obtain ⟨wl', p', e2, h1, h2⟩ := row_loop ds (wl ++ [w]) (n + 1) p1 (by rw [List.length_append, List.length_singleton]; omega) (fun x hx => by
      rcases List.mem_append.mp hx with q | q
      · exact hw x q
      · rw [List.mem_singleton.mp q]; exact rowW_ok w hw1) hp1 (by omega)
    refine ⟨wl', p', ?_, h1, h2⟩
    rw [← e2]
    have e3 : sFz rowE (CC fu 59) [s0, .own p, .val t, s3, .non, .non, s6, s7, s8, .val d] = .ok (wd w) [s0, .own p1, .val t, s3, .non, .non, s6, s7, s8, .val d] := by
      have ez := rowL_ok (CC fu 59) [s0, .own p, .val t, s3, .non, .non, s6, s7, s8, .val d]
      generalize rowW.map wd = sw at *
      unfold rowE
      generalize rowL = rl at *
      simp [ez, e1]
    have e4 : tgN 9 d [s0, .own p, .val t, s3, .non, .non, s6, s7, s8, .non] = some [s0, .own p, .val t, s3, .non, .non, s6, s7, s8, .val d] := by simp
    have hz : (wl.map wd).length < 16777216 := by rw [List.length_map]; omega
    conv => lhs; unfold cmL
    rw [e4]
    simp only [sYes, bind_ok]
    rw [e3]
    simp only [bind_ok, if_pos hz]
    rw [List.map_append]
    rfl
theorem join_flat : ∀ wl : List (List Nat), Str.join (mk []) (wl.map mk) = mk wl.flatten
  | [] => rfl
  | [l] => by simp [Str.join]
  | l :: m :: ls => by
    have ih := join_flat (m :: ls)
    show mk l ++ mk [] ++ Str.join (mk []) ((m :: ls).map mk) = _
    rw [ih, mk_append, mk_append, List.append_nil]
    rfl
theorem sum4 : ∀ wl : List (List Nat), (∀ w ∈ wl, w.length ≤ 4) → ((wl.map mk).map (·.length)).sum ≤ 4 * wl.length ∧ wl.flatten.length ≤ 4 * wl.length
  | [], _ => ⟨Nat.le_refl _, Nat.le_refl _⟩
  | w :: wl, h => by
    have := sum4 wl fun x hx => h x (List.mem_cons_of_mem _ hx)
    have := h w List.mem_cons_self
    simp only [List.map_cons, List.sum_cons, List.length_cons, mk_len, List.flatten_cons, List.length_append]
    omega
theorem gJoin_flat {wl : List (List Nat)} (h : ∀ w ∈ wl, w.length ≤ 4) (hl : wl.length ≤ 30) : gJoin (Str.ofString "") (.lst (wl.map wd)) = some (.val (.str (mk wl.flatten))) := by
  have e : Str.ofString "" = mk [] := by decide +kernel
  have s := (sum4 wl h).1
  unfold gJoin
  simp only [asStrs_wd, Option.bind_some, e]
  rw [if_pos]
  · rw [join_plain, join_flat]
  · simp only [List.length_map, mk_len, List.length_nil]
    omega
theorem odd_run {d : D} (h : gIsi ["str"] d = some (.val (.bl false))) : run fu 59 5 [.val d] = .ok (.val badT) [.non] := by
  rw [run_m (F := ⟨1, 1, F_words_of⟩) rfl (by omega), bodyRun_eq]
  simp [F_words_of, h, badT]
theorem bad_ne : gNe badT badT = some (.val (.bl false)) := by kernel_rfl
theorem odd_loop {p t : D} {s0 s3 s4 s6 s7 s8 s9 : Slot} : ∃ s5, forL (CC fu 59) (tgN 5) oddB oddDs [s0, .own p, .val t, s3, s4, .non, s6, s7, s8, s9] = .nx [s0, .own p, .val t, s3, s4, s5, s6, s7, s8, s9] := by
  refine forL_ind (P := fun o => ∃ s5, o = .nx [s0, .own p, .val t, s3, s4, s5, s6, s7, s8, s9]) (fun ds S => (∀ d ∈ ds, gIsi ["str"] d = some (.val (.bl false))) ∧ ∃ s5, free s5 = true ∧ S = [s0, .own p, .val t, s3, s4, s5, s6, s7, s8, s9]) ⟨?_, .non, rfl, rfl⟩ ?_ ?_
  · intro d hd
    simp only [oddDs, List.mem_cons, List.not_mem_nil, or_false] at hd
    rcases hd with q | q | q | q | q | q <;> subst q <;> rfl
  · rintro d ds S ⟨hd, s5, f5, rfl⟩
    have q5 := odd_run (fu := fu) (hd d List.mem_cons_self)
    have qn := bad_ne
    refine ⟨[s0, .own p, .val t, s3, s4, .val d, s6, s7, s8, s9], by simp [f5], .inl ⟨_, .inl ?_, fun x hx => hd x (List.mem_cons_of_mem _ hx), .val d, rfl, rfl⟩⟩
    have ec : (sTup (sCons (sTup (sCons (sC (.str "bad")) (sCons (sC (.str "text")) (sCons (sC (.int 0)) (sCons (sC (.int 0)) sNil))))) sNil)) (CC fu 59) [s0, .own p, .val t, s3, s4, .val d, s6, s7, s8, s9] = .ok (.val badT) [s0, .own p, .val t, s3, s4, .val d, s6, s7, s8, s9] := by simp [badT]
    unfold oddB
    generalize (sTup (sCons (sTup (sCons (sC (.str "bad")) (sCons (sC (.str "text")) (sCons (sC (.int 0)) (sCons (sC (.int 0)) sNil))))) sNil)) = z at *
    generalize badT = bt at *
    simp [q5, ec, qn]
  · rintro S ⟨_, s5, _, rfl⟩
    exact ⟨s5, rfl⟩
theorem x_1 : (D.str (Str.ofString "a\n # b")) = .str (mk [97, 10, 32, 35, 32, 98]) := by kernel_rfl
theorem x_2 : (D.str (Str.ofString "x!=0")) = .str (mk [120, 33, 61, 48]) := by kernel_rfl
theorem end_ok (hfu : 100000000 ≤ fu) (S : Kn.Env) : endE (CC fu 59) S = .ok (.val (.bl true)) S := by
  have q1 := e5 hfu (l := []) (by decide) (by decide)
  have q2 := e5 hfu (l := [97, 10, 32, 35, 32, 98]) (by decide) (by decide)
  have q3 := e5 hfu (l := [120, 33, 61, 48]) (by decide) (by decide)
  rw [← s_em] at q1
  rw [← x_1] at q2
  rw [← x_2] at q3
  have g1 : gEq (.tup (T 0 0 [])) (.tup [.tup [.str "end", .str "", .int 0, .int 0]]) = some (.val (.bl true)) := by kernel_rfl
  have g2 : gEq (.tup (T 0 0 [97, 10, 32, 35, 32, 98])) (.tup [.tup [.str "name", .str "a", .int 0, .int 0], .tup [.str "end", .str "", .int 1, .int 4]]) = some (.val (.bl true)) := by kernel_rfl
  have g3 : gEq (.tup (T 0 0 [120, 33, 61, 48])) (.tup [.tup [.str "name", .str "x", .int 0, .int 0], .tup [.str "sign", .str "!=", .int 0, .int 1], .tup [.str "number", .str "0", .int 0, .int 3], .tup [.str "end", .str "", .int 0, .int 4]]) = some (.val (.bl true)) := by kernel_rfl
  generalize T 0 0 [] = t1 at *
  generalize T 0 0 [97, 10, 32, 35, 32, 98] = t2 at *
  generalize T 0 0 [120, 33, 61, 48] = t3 at *
  have pb : ∀ (d : D) (ss : List Slot), putBack [R.val d] ss S = S := fun d ss => mapIdx_id fun j s => by
    cases ss with
    | nil => rfl
    | cons a ss => rw [newAt_val, newAt_nil]
  simp [-putBack_eq, pb, endE, q1, q2, q3, g1, g2, g3]
theorem rest (hfu : 100000000 ≤ fu) {n : Nat} {p t : D} {s0 s3 s6 s7 s8 : Slot} (hp : IsPen n p) (hn : n < 90000000) : ∃ S, lawR (CC fu 59) [s0, .own p, .val t, s3, .non, .non, s6, s7, s8, .non] = .rt (.val (.bl true)) S := by
  obtain ⟨z, p1, e1, z0, z1, hp1⟩ := dr (fu := fu) (m := 59) (by omega) n p 30 hp (by omega) (by decide) (by decide)
  obtain ⟨k, rfl⟩ : ∃ k : Nat, z = (k : Int) := ⟨z.toNat, by omega⟩
  have hrl : (rangeD 0 k).length = k := by simp [rangeD]
  obtain ⟨wl, p2, e2, hl, hw⟩ := row_loop (fu := fu) (t := t) (s0 := s0) (s3 := s3) (s6 := s6) (s7 := s7) (s8 := s8) (rangeD 0 k) [] (n + 1) p1 (by rw [hrl, List.length_nil]; omega) (fun _ h => nomatch h) hp1 (by rw [hrl]; omega)
  have hrg : rgOk (k : Int) := rgOk_nat (by omega)
  have ej := gJoin_flat (fun w h => (hw w h).1) hl
  have hfl := (sum4 wl fun w h => (hw w h).1).2
  have ha : ∀ c ∈ wl.flatten, c < 128 := by
    intro c hc
    obtain ⟨w, h1, h2⟩ := List.mem_flatten.mp hc
    exact (hw w h1).2 c h2
  have q5 := e5 hfu (l := wl.flatten) (by omega) ha
  have q31 := e31 hfu (l := wl.flatten) (by omega) ha
  have qT := eT ha
  generalize T 0 0 wl.flatten = ds at *
  generalize wl.flatten = fl at *
  rw [List.map_nil] at e2
  generalize wl.map wd = wm at *
  obtain ⟨s5, e3⟩ := odd_loop (fu := fu) (p := p2) (t := t) (s0 := s0) (s3 := s3) (s4 := .val (.str (mk fl))) (s6 := s6) (s7 := s7) (s8 := s8) (s9 := .non)
  have eo := oddI_ok (CC fu 59) [s0, .own p2, .val t, s3, .val (.str (mk fl)), .non, s6, s7, s8, .non]
  have ee := end_ok hfu [s0, .own p2, .val t, s3, .val (.str (mk fl)), s5, s6, s7, s8, .non]
  unfold lawR
  generalize rowE = re at *
  generalize oddI = oi at *
  generalize oddDs = od at *
  generalize oddB = ob at *
  generalize endE = en at *
  exact ⟨[s0, .own p2, .val t, s3, .val (.str (mk fl)), s5, s6, s7, s8, .non], by simp [e1, sLc, plainAt, wipeE, restoreE, hrg, e2, ej, q5, q31, qT, eo, e3, ee]⟩
theorem law34 (hfu : 100000000 ≤ fu) {ns : List Int} (h : ns.length ≤ 63) : ∃ S, run fu 60 34 [.val (script ns)] = .ok (.val (.bl true)) S := by
  obtain ⟨p, e1, hp⟩ := pen_ok (C := CC fu 58) h
  have e1' : run fu 59 6 [.val (script ns)] = .ok (.fr p) [.non] := by
    rw [run_m (F := ⟨1, 3, penF⟩) rfl (by omega)]
    exact e1
  obtain ⟨t, p1, e2, ht, hp1⟩ := tree21 (fu := fu) (m := 59) hfu (by omega) hp (by omega)
  obtain ⟨p2, s3, s6, s7, s8, e3, hp2⟩ := laps hfu (s0 := .val (script ns)) (s3 := .non) (s4 := .non) (s5 := .non) (s6 := .non) (s7 := .non) (s8 := .non) (s9 := .non) ht hp1 (by omega) rfl rfl rfl rfl
  obtain ⟨S, e4⟩ := rest hfu (t := t) (s0 := .val (script ns)) (s3 := s3) (s6 := s6) (s7 := s7) (s8 := s8) hp2 (by omega)
  refine ⟨outs 1 S, ?_⟩
  rw [run_m (F := ⟨1, 10, F_law⟩) rfl (by omega), bodyRun_eq, law_eq]
  generalize lapB = lb at *
  generalize lawR = lr at *
  generalize script ns = sc at *
  simp [e1', e2, e3, e4, rg4]
theorem plain : prog.Holds 1000000000 60 34 := fun ns h _ => law34 (fu := 1000000000) (by decide) h
end
end K44

/-! K44end -/
theorem K44.holds : K44.prog.Holds 1000000000 60 34 := K44.plain
open PySem PySem.W PyProof.Rows in
set_option maxRecDepth 100000 in
set_option maxHeartbeats 0 in
theorem PySem.Challenge.cw_kneenets_k44_words_of_texts_holds : PySem.Challenge.rw_kneenets_k44_words_of_texts.Holds := by
  w_on; o_law; k_head; (case hw => w_witness2)
  k_fill
  refine Kn.walkK K44.prog_ok K44.holds (n := 60) (D := K44.D_law) (x := "script") rfl rfl rfl ⟨rfl, by decide, by decide⟩ rfl rfl (fun w h Y => PySem.W.kIn_of Y) ?F
  case F =>
    intro w mg h KX G
    refine' K44.at_mk KX G ?a0 ?l0 ?c0 ?k0 ?a1 ?l1 ?c1 ?k1 ?a2 ?l2 ?c2 ?k2 ?a3 ?l3 ?c3 ?k3 ?a4 ?l4 ?c4 ?k4 ?a5 ?l5 ?c5 ?k5 ?a6 ?l6 ?c6 ?k6 ?a7 ?l7 ?c7 ?k7 ?a8 ?l8 ?c8 ?k8 ?a9 ?l9 ?c9 ?k9 ?a10 ?l10 ?c10 ?k10 ?a11 ?l11 ?c11 ?k11 ?a12 ?l12 ?c12 ?k12 ?a13 ?l13 ?c13 ?k13 ?a14 ?l14 ?c14 ?k14 ?a15 ?l15 ?c15 ?k15 ?a16 ?l16 ?c16 ?k16 ?a17 ?l17 ?c17 ?k17 ?a18 ?l18 ?c18 ?k18 ?a19 ?l19 ?c19 ?k19 ?a20 ?l20 ?c20 ?k20 ?a21 ?l21 ?c21 ?k21 ?a22 ?l22 ?c22 ?k22 ?a23 ?l23 ?c23 ?k23 ?a24 ?l24 ?c24 ?k24 ?a25 ?l25 ?c25 ?k25 ?a26 ?l26 ?c26 ?k26 ?a27 ?l27 ?c27 ?k27 ?a28 ?l28 ?c28 ?k28 ?a29 ?l29 ?c29 ?k29 ?a30 ?l30 ?c30 ?k30 ?a31 ?l31 ?c31 ?k31 ?a32 ?l32 ?c32 ?k32 ?a33 ?l33 ?c33 ?k33 ?a34 ?l34 ?c34 ?k34 ?q0 ?qe0 ?q1 ?qe1 ?q2 ?qe2 ?q3 ?ql3 ?qz3 ?qe3 ?q4 ?ql4 ?qz4 ?qe4 ?q5 ?qe5 ?q6 ?qe6 ?z0 ?z1 ?z2 ?z3 ?z4 ?z5 ?z6 ?z7 ?z8 ?z9 ?z10 ?z11
    (case a0 => k_is)
    (case l0 => k_is)
    (case c0 => k_is)
    (case k0 => k_is)
    (case a1 => k_is)
    (case l1 => k_is)
    (case c1 => k_is)
    (case k1 => k_is)
    (case a2 => k_is)
    (case l2 => k_is)
    (case c2 => k_is)
    (case k2 => k_is)
    (case a3 => k_is)
    (case l3 => k_is)
    (case c3 => k_is)
    (case k3 => k_is)
    (case a4 => k_is)
    (case l4 => k_is)
    (case c4 => k_is)
    (case k4 => k_is)
    (case a5 => k_is)
    (case l5 => k_is)
    (case c5 => k_is)
    (case k5 => k_is)
    (case a6 => k_is)
    (case l6 => k_is)
    (case c6 => k_is)
    (case k6 => k_is)
    (case a7 => k_is)
    (case l7 => k_is)
    (case c7 => k_is)
    (case k7 => k_is)
    (case a8 => k_is)
    (case l8 => k_is)
    (case c8 => k_is)
    (case k8 => k_is)
    (case a9 => k_is)
    (case l9 => k_is)
    (case c9 => k_is)
    (case k9 => k_is)
    (case a10 => k_is)
    (case l10 => k_is)
    (case c10 => k_is)
    (case k10 => k_is)
    (case a11 => k_is)
    (case l11 => k_is)
    (case c11 => k_is)
    (case k11 => k_is)
    (case a12 => k_is)
    (case l12 => k_is)
    (case c12 => k_is)
    (case k12 => k_is)
    (case a13 => k_is)
    (case l13 => k_is)
    (case c13 => k_is)
    (case k13 => k_is)
    (case a14 => k_is)
    (case l14 => k_is)
    (case c14 => k_is)
    (case k14 => k_is)
    (case a15 => k_is)
    (case l15 => k_is)
    (case c15 => k_is)
    (case k15 => k_is)
    (case a16 => k_is)
    (case l16 => k_is)
    (case c16 => k_is)
    (case k16 => k_is)
    (case a17 => k_is)
    (case l17 => k_is)
    (case c17 => k_is)
    (case k17 => k_is)
    (case a18 => k_is)
    (case l18 => k_is)
    (case c18 => k_is)
    (case k18 => k_is)
    (case a19 => k_is)
    (case l19 => k_is)
    (case c19 => k_is)
    (case k19 => k_is)
    (case a20 => k_is)
    (case l20 => k_is)
    (case c20 => k_is)
    (case k20 => k_is)
    (case a21 => k_is)
    (case l21 => k_is)
    (case c21 => k_is)
    (case k21 => k_is)
    (case a22 => k_is)
    (case l22 => k_is)
    (case c22 => k_is)
    (case k22 => k_is)
    (case a23 => k_is)
    (case l23 => k_is)
    (case c23 => k_is)
    (case k23 => k_is)
    (case a24 => k_is)
    (case l24 => k_is)
    (case c24 => k_is)
    (case k24 => k_is)
    (case a25 => k_is)
    (case l25 => k_is)
    (case c25 => k_is)
    (case k25 => k_is)
    (case a26 => k_is)
    (case l26 => k_is)
    (case c26 => k_is)
    (case k26 => k_is)
    (case a27 => k_is)
    (case l27 => k_is)
    (case c27 => k_is)
    (case k27 => k_is)
    (case a28 => k_is)
    (case l28 => k_is)
    (case c28 => k_is)
    (case k28 => k_is)
    (case a29 => k_is)
    (case l29 => k_is)
    (case c29 => k_is)
    (case k29 => k_is)
    (case a30 => k_is)
    (case l30 => k_is)
    (case c30 => k_is)
    (case k30 => k_is)
    (case a31 => k_is)
    (case l31 => k_is)
    (case c31 => k_is)
    (case k31 => k_is)
    (case a32 => k_is)
    (case l32 => k_is)
    (case c32 => k_is)
    (case k32 => k_is)
    (case a33 => k_is)
    (case l33 => k_is)
    (case c33 => k_is)
    (case k33 => k_is)
    (case a34 => k_is)
    (case l34 => k_is)
    (case c34 => k_is)
    (case k34 => k_is)
    (case q0 => k_is)
    (case qe0 => first | k_is | rfl | decide)
    (case q1 => k_is)
    (case qe1 => first | k_is | rfl | decide)
    (case q2 => k_is)
    (case qe2 => first | k_is | rfl | decide)
    (case q3 => k_is)
    (case ql3 => k_is)
    (case qz3 => first | k_is | rfl | decide)
    (case qe3 => first | k_is | rfl | decide)
    (case q4 => k_is)
    (case ql4 => k_is)
    (case qz4 => first | k_is | rfl | decide)
    (case qe4 => first | k_is | rfl | decide)
    (case q5 => k_is)
    (case qe5 => first | k_is | rfl | decide)
    (case q6 => k_is)
    (case qe6 => first | k_is | rfl | decide)
    (case z0 => k_is)
    (case z1 => k_is)
    (case z2 => k_is)
    (case z3 => k_is)
    (case z4 => k_is)
    (case z5 => k_is)
    (case z6 => k_is)
    (case z7 => k_is)
    (case z8 => k_is)
    (case z9 => k_is)
    (case z10 => k_is)
    (case z11 => k_is)

