import PyProof.Rows.All
import Wide.All
import OpenK.AllK
import Wide.FinOn
import PyProof.EqAt
import PyProof.EqKinds
import PyProof.TupleCall
import HandS.ForMost
import HandS.More
import HandS.Conv
import HandS.Flow
import HandS.Style
import HandS.TupAny
import HandS.TupMul
import HandS.TupLe
import HandS.DictComp
import HandS.Exc
import HandS.ExcOwn
import HandS.TryOnly
import HandS.TryMany
import HandS.Lambda
import HandS.CallLocal
import HandS.Deep
import HandS.DeepEq
import HandS.ListItems
import HandS.SetKeys
import HandS.Strs
import HandS.Zip
import HandS.HeadWalk
import HandS.HeadHook4
import HandS.IsInst
import HandS.SortInts
import KE.KSortedM
import HandS.Small
import PyProof.ExcBaseAll.ValueError
import HandS.EndTab
import HandS.HeadEnd
import PyProof.P3Eq
import KE.KStateDown
import Lean
import HandS.Head0
import HandS.Head1
import HandS.Head2
import HandS.HeadHook1
import HandS.HeadHook2
import HandS.HeadHook3
import HandS.NestedK
import PySem.Challenge.RW_cellforge_k71_whole_words_given_back
set_option Elab.async false
set_option linter.all false
set_option maxRecDepth 100000
set_option maxHeartbeats 0
/-! The data layer: abstract values, stores, how they lie in the abstract heap of the hand layer. -/
namespace DL
open PySem PySem.Spec L2

/-- immutable data (kl, kd: a list that is read alone, the module's own dict with text keys), and references to objects of the store -/
inductive D where
  | non | bl (b : Bool) | int (i : Int) | str (x : Str) | tup (ds : List D) | ref (n : Nat) | fn (x : Str) | kl (ds : List D) | kd (ks : List Str) (ds : List D)
  deriving Inhabited
/-- what an expression gives: data; or a list or dict that nothing else points to -/
inductive T where
  | im (d : D) | vl (ds : List D) | vd (kvs : List (Key × D))
  deriving Inhabited
def T.own : T → Bool
  | .im _ => false
  | _ => true
/-- an object of the store; fdic: a dict while a loop walks it -/
inductive MO where
  | lst (ds : List D) | dic (kvs : List (Key × D)) | ins (c : Str) (fs : List (Str × D)) | fdic (kvs : List (Key × D))
  deriving Inhabited
abbrev Sto := List MO
abbrev Ev := List (Option T)
structure Exc where
  c : Str
  p : List (Str × D)
inductive Res (α : Type) where
  | ok (a : α) (S : Sto) | exc (e : Exc) (S : Sto) | stuck
abbrev M := Ev → Sto → Res T

abbrev line : Nat := 16777216
theorem line_eq : sizeLine = line := sizeLine_eq

/-- what the module's names hold, as far as defs and classes go: an address for each -/
structure Cn where
  K : PySem.W.Frag
  mg : Str → Option Value
  w : World
  /-- the name of a def by its address -/
  nm : Addr → Option Str
  /-- the tables of code objects -/
  T : List (Addr × Str)
  /-- such an address holds a def -/
  isFn : ∀ f x, nm f = some x → ∃ oc od fd osl, K.lookup f = some ⟨oc, od, .func fd, osl⟩

/-- a list that nobody writes -/
def RoL (K : PySem.W.Frag) (H : Hp) (a : Addr) (xs : List V) : Prop := (∃ o, H a = some (.frz o (.lst xs))) ∨
    ∃ (o : Obj) (its : Array Value) (n : Nat), K.lookup a = some o ∧ o.cls = .type "list" ∧ o.dict = none ∧ o.data = .seq its n ∧ its.size ≤ sizeLine ∧ Vals xs its.toList
theorem RoL.seq {K : PySem.W.Frag} {H : Hp} {a : Addr} {xs : List V} (r : RoL K H a xs) : SqL K H a xs := by
  rcases r with ⟨o, h⟩ | r
  · exact .inl (.inr ⟨o, h⟩)
  · exact .inr r

mutual
inductive RD (C : Cn) (H : Hp) (μ : List Addr) : V → D → Prop where
  | non : RD C H μ .non .non
  | bl (b : Bool) : RD C H μ (.bl b) (.bl b)
  | int (i : Int) : RD C H μ (.int i) (.int i)
  | str (x : Str) : RD C H μ (.str x) (.str x)
  | tup {a : Addr} {vs : List V} {ds : List D} : SqT C.K H a vs → RDs C H μ vs ds → ds.length ≤ line → RD C H μ (.ref a) (.tup ds)
  | ref {n : Nat} {a : Addr} : μ[n]? = some a → RD C H μ (.ref a) (.ref n)
  | kl {a : Addr} {vs : List V} {ds : List D} : RoL C.K H a vs → RDs C H μ vs ds → ds.length ≤ line → RD C H μ (.ref a) (.kl ds)
  | kd {a : Addr} {ks : List Str} {vs : List V} {ds : List D} {es : Array DictEntry} {n : Nat} : KDict C.K C.w a es n → (∀ z : Str, ∃ r, PySem.W.nsIn C.K a z = some r ∧ RelO ((ks.zip vs).lookup z) r) → RDs C H μ vs ds → ks.length = ds.length → RD C H μ (.ref a) (.kd ks ds)
  | fn {x : Str} {f : Addr} : C.mg x = some (.ref f) → C.nm f = some x → RD C H μ (.ref f) (.fn x)
inductive RDs (C : Cn) (H : Hp) (μ : List Addr) : List V → List D → Prop where
  | nil : RDs C H μ [] []
  | cons {v : V} {vs : List V} {d : D} {ds : List D} : RD C H μ v d → RDs C H μ vs ds → RDs C H μ (v :: vs) (d :: ds)
end
section
variable {C : Cn} {H H' : Hp} {μ μ' : List Addr} {P : Addr → Prop} {S : Sto}
theorem RDs.length : ∀ {vs : List V} {ds : List D}, RDs C H μ vs ds → vs.length = ds.length
  | _, _, .nil => rfl
  | _, _, .cons _ t => by simp [RDs.length t]
theorem RDs.get : ∀ {vs : List V} {ds : List D} {i : Nat} {d : D}, RDs C H μ vs ds → ds[i]? = some d → ∃ v, vs[i]? = some v ∧ RD C H μ v d
  | _, _, _, _, .nil, e => by simp at e
  | _, _, 0, _, .cons r _, e => by simp at e; subst e; exact ⟨_, rfl, r⟩
  | _, _, i + 1, d, .cons _ t, e => by
    obtain ⟨v, h1, h2⟩ := RDs.get (i := i) (d := d) t (by simpa using e)
    exact ⟨v, by simpa using h1, h2⟩
theorem RDs.getV : ∀ {vs : List V} {ds : List D} {i : Nat} {v : V}, RDs C H μ vs ds → vs[i]? = some v → ∃ d, ds[i]? = some d ∧ RD C H μ v d
  | _, _, _, _, .nil, e => by simp at e
  | _, _, 0, _, .cons r _, e => by simp at e; subst e; exact ⟨_, rfl, r⟩
  | _, _, i + 1, d, .cons _ t, e => by
    obtain ⟨v, h1, h2⟩ := RDs.getV (i := i) (v := d) t (by simpa using e)
    exact ⟨v, by simpa using h1, h2⟩
theorem RDs.append : ∀ {vs ws : List V} {ds es : List D}, RDs C H μ vs ds → RDs C H μ ws es → RDs C H μ (vs ++ ws) (ds ++ es)
  | _, _, _, _, .nil, s => s
  | _, _, _, _, .cons r t, s => .cons r (RDs.append t s)
theorem RDs.take : ∀ {vs : List V} {ds : List D} (n : Nat), RDs C H μ vs ds → RDs C H μ (vs.take n) (ds.take n)
  | _, _, 0, _ => .nil
  | _, _, _ + 1, .nil => .nil
  | _, _, n + 1, .cons r t => .cons r (RDs.take n t)
theorem RDs.drop : ∀ {vs : List V} {ds : List D} (n : Nat), RDs C H μ vs ds → RDs C H μ (vs.drop n) (ds.drop n)
  | _, _, 0, r => r
  | _, _, _ + 1, .nil => .nil
  | _, _, n + 1, .cons _ t => RDs.drop n t
theorem RDs.set {v : V} {d : D} (r : RD C H μ v d) : ∀ {vs : List V} {ds : List D} (i : Nat), RDs C H μ vs ds → RDs C H μ (vs.set i v) (ds.set i d)
  | _, _, _, .nil => .nil
  | _, _, 0, .cons _ t => .cons r t
  | _, _, i + 1, .cons q t => .cons q (RDs.set r i t)
theorem RDs.eraseIdx : ∀ {vs : List V} {ds : List D} (i : Nat), RDs C H μ vs ds → RDs C H μ (vs.eraseIdx i) (ds.eraseIdx i)
  | _, _, _, .nil => .nil
  | _, _, 0, .cons _ t => t
  | _, _, i + 1, .cons q t => .cons q (RDs.eraseIdx i t)
theorem RDs.one {v : V} {d : D} (r : RD C H μ v d) : RDs C H μ [v] [d] := .cons r .nil
theorem RDs.reverse : ∀ {vs : List V} {ds : List D}, RDs C H μ vs ds → RDs C H μ vs.reverse ds.reverse
  | _, _, .nil => .nil
  | _, _, .cons r t => by rw [List.reverse_cons, List.reverse_cons]; exact (RDs.reverse t).append (.one r)
theorem RDs.flatten_rep (n : Nat) {vs : List V} {ds : List D} (r : RDs C H μ vs ds) : RDs C H μ (List.replicate n vs).flatten (List.replicate n ds).flatten := by
  induction n with
  | zero => exact .nil
  | succ n ih => rw [List.replicate_succ, List.replicate_succ, List.flatten_cons, List.flatten_cons]; exact r.append ih
theorem RDs.replicate (n : Nat) {v : V} {d : D} (r : RD C H μ v d) : RDs C H μ (List.replicate n v) (List.replicate n d) := by
  induction n with
  | zero => exact .nil
  | succ n ih => exact .cons r ih
theorem RDs.ints : ∀ (ns : List Int), RDs C H μ (ns.map V.int) (ns.map D.int)
  | [] => .nil
  | n :: r => .cons (.int n) (RDs.ints r)

/-- pairs of a dict -/
abbrev KD (C : Cn) (H : Hp) (μ : List Addr) : List (Key × V) → List (Key × D) → Prop := Paired fun p q => p.1 = q.1 ∧ RD C H μ p.2 q.2
abbrev FD (C : Cn) (H : Hp) (μ : List Addr) : List (Str × V) → List (Str × D) → Prop := Paired fun p q => p.1 = q.1 ∧ RD C H μ p.2 q.2

/-- what lies at the address of an object of the store -/
def MOk (C : Cn) (H : Hp) (μ : List Addr) (a : Addr) : MO → Prop
  | .lst ds => ∃ vs, H a = some (.lst vs) ∧ RDs C H μ vs ds ∧ ds.length ≤ line
  | .dic kvs => ∃ ps, H a = some (.dK ps) ∧ KD C H μ ps kvs ∧ kvs.length ≤ line ∧ (kvs.map (·.1)).Nodup
  | .ins c fs => ∃ A dx ps, C.mg c = some (.ref A) ∧ H a = some (.ins A dx ps) ∧ FD C H μ ps fs ∧ Cls C.K A
  | .fdic kvs => ∃ o ps, H a = some (.frz o (.dK ps)) ∧ KD C H μ ps kvs ∧ kvs.length ≤ line ∧ (kvs.map (·.1)).Nodup

structure SR (C : Cn) (H : Hp) (μ : List Addr) (S : Sto) : Prop where
  len : μ.length = S.length
  nd : μ.Nodup
  ok : ∀ (n : Nat) (a : Addr) (o : MO), μ[n]? = some a → S[n]? = some o → MOk C H μ a o
  tabs : LamX.Tabs C.T H

def RT (C : Cn) (H : Hp) (μ : List Addr) (v : V) : T → Prop
  | .im d => RD C H μ v d
  | .vl ds => ∃ a vs, v = .ref a ∧ H a = some (.lst vs) ∧ RDs C H μ vs ds ∧ a ∉ μ ∧ ds.length ≤ line
  | .vd kvs => ∃ a ps, v = .ref a ∧ H a = some (.dK ps) ∧ KD C H μ ps kvs ∧ a ∉ μ ∧ kvs.length ≤ line ∧ (kvs.map (·.1)).Nodup

/-- a table of code objects: it grows as lambdas are made -/
def isT : HO → Bool
  | .tbl _ => true
  | _ => false
/-- what may change -/
def plainO : HO → Bool
  | .lst _ => true
  | .dK _ => true
  | .ins _ _ _ => true
  | _ => false
/-- nothing but a table may lie there -/
def Nw (H : Hp) (a : Addr) : Prop := ∀ o, H a = some o → isT o = true
theorem Nw.of {H : Hp} {a : Addr} (h : H a = none) : Nw H a := fun o e => by rw [h] at e; cases e
theorem Nw.ne {H : Hp} {a b : Addr} {o : HO} (n : Nw H a) (h : H b = some o) (t : isT o = false) : b ≠ a := fun z => by
  rw [z] at h
  rw [n o h] at t
  cases t
/-- how the heap goes on: P: the addresses that may change beside those of the store -/
structure Ext (C : Cn) (P : Addr → Prop) (H : Hp) (μ : List Addr) (H' : Hp) (μ' : List Addr) : Prop where
  pre : ∃ l, μ' = μ ++ l ∧ ∀ b ∈ l, Nw H b ∨ P b
  keep : ∀ b o, H b = some o → isT o = false → b ∉ μ → ¬ P b → H' b = some o
  tups : ∀ b vs, SqT C.K H b vs → SqT C.K H' b vs
  frz : ∀ b o u, H b = some (.frz o u) → H' b = some (.frz o u)
  live : ∀ b o, H b = some o → isT o = false → ∃ o', H' b = some o' ∧ isT o' = false
  tab : LamX.Tabs C.T H → LamX.Tabs C.T H'
abbrev no : Addr → Prop := fun _ => False
theorem Ext.ros (e : Ext C P H μ H' μ') : ∀ b vs, RoL C.K H b vs → RoL C.K H' b vs := fun b vs h => by
  rcases h with ⟨o, h⟩ | h
  · exact .inl ⟨o, e.frz _ _ _ h⟩
  · exact .inr h

theorem Ext.refl : Ext C P H μ H μ := ⟨⟨[], by simp, by simp⟩, fun _ _ e _ _ _ => e, fun _ _ e => e, fun _ _ _ e => e, fun _ o e t => ⟨o, e, t⟩, id⟩
theorem Ext.mono {Q : Addr → Prop} (e : Ext C P H μ H' μ') (h : ∀ b, P b → Q b) : Ext C Q H μ H' μ' :=
  ⟨let ⟨l, h1, h2⟩ := e.pre; ⟨l, h1, fun b hb => (h2 b hb).imp id (h b)⟩, fun b o h1 t h2 h3 => e.keep b o h1 t h2 fun z => h3 (h b z), e.tups, e.frz, e.live, e.tab⟩
theorem Ext.sub (e : Ext C P H μ H' μ') : ∀ {b}, b ∈ μ → b ∈ μ' := fun {b} hb => by
  obtain ⟨l, rfl, _⟩ := e.pre
  exact List.mem_append_left _ hb
theorem Ext.at (e : Ext C P H μ H' μ') {n : Nat} {a : Addr} (h : μ[n]? = some a) : μ'[n]? = some a := by
  obtain ⟨l, rfl, _⟩ := e.pre
  rw [List.getElem?_append_left (List.getElem?_eq_some_iff.mp h).1]
  exact h
theorem Ext.notin (e : Ext C P H μ H' μ') {b : Addr} {o : HO} (h : H b = some o) (t : isT o = false) (hb : b ∉ μ) (hp : ¬ P b) : b ∉ μ' := by
  obtain ⟨l, rfl, h2⟩ := e.pre
  intro z
  rcases List.mem_append.mp z with z | z
  · exact hb z
  · rcases h2 b z with q | q
    · rw [q o h] at t; cases t
    · exact hp q
/-- one after another; what may change behind may have been laid meanwhile -/
theorem Ext.trans {Q : Addr → Prop} {H2 : Hp} {μ2 : List Addr} (e : Ext C P H μ H' μ') (f : Ext C Q H' μ' H2 μ2) (h : ∀ b, Q b → P b ∨ Nw H b) : Ext C P H μ H2 μ2 := by
  refine ⟨?_, fun b o h1 t h2 h3 => ?_, fun b vs z => f.tups _ _ (e.tups _ _ z), fun b o u z => f.frz _ _ _ (e.frz _ _ _ z), fun b o z t => ?_, fun z => f.tab (e.tab z)⟩
  · obtain ⟨l, rfl, hl⟩ := e.pre
    obtain ⟨k, rfl, hk⟩ := f.pre
    refine ⟨l ++ k, by rw [List.append_assoc], fun b hb => ?_⟩
    rcases List.mem_append.mp hb with hb | hb
    · exact hl b hb
    · rcases hk b hb with z | z
      · refine .inl fun o q => ?_
        cases t : isT o with
        | true => rfl
        | false =>
          obtain ⟨o', e', t'⟩ := e.live b o q t
          rw [z o' e'] at t'; cases t'
      · rcases h b z with z | z
        · exact .inr z
        · exact .inl z
  · have h4 := e.keep b o h1 t h2 h3
    refine f.keep b o h4 t (e.notin h1 t h2 h3) fun z => ?_
    rcases h b z with z | z
    · exact h3 z
    · rw [z o h1] at t; cases t
  · obtain ⟨o1, e1, t1⟩ := e.live b o z t
    exact f.live b o1 e1 t1

mutual
theorem RD.ext (e : Ext C P H μ H' μ') : ∀ {v : V} {d : D}, RD C H μ v d → RD C H' μ' v d
  | _, _, .non => .non
  | _, _, .bl b => .bl b
  | _, _, .int i => .int i
  | _, _, .str x => .str x
  | _, _, .tup h t z => .tup (e.tups _ _ h) (RDs.ext e t) z
  | _, _, .ref h => .ref (e.at h)
  | _, _, .kl h t z => .kl (e.ros _ _ h) (RDs.ext e t) z
  | _, _, .kd h f t z => .kd h f (RDs.ext e t) z
  | _, _, .fn h k => .fn h k
theorem RDs.ext (e : Ext C P H μ H' μ') : ∀ {vs : List V} {ds : List D}, RDs C H μ vs ds → RDs C H' μ' vs ds
  | _, _, .nil => .nil
  | _, _, .cons r t => .cons (RD.ext e r) (RDs.ext e t)
end
theorem KD.ext (e : Ext C P H μ H' μ') {ps : List (Key × V)} {kvs : List (Key × D)} (k : KD C H μ ps kvs) : KD C H' μ' ps kvs := Paired.mapP k fun _ _ h => ⟨h.1, h.2.ext e⟩
theorem FD.ext (e : Ext C P H μ H' μ') {ps : List (Str × V)} {kvs : List (Str × D)} (k : FD C H μ ps kvs) : FD C H' μ' ps kvs := Paired.mapP k fun _ _ h => ⟨h.1, h.2.ext e⟩
/-- a value that stands apart goes on, where its address is none of those that may change -/
theorem RT.ext (e : Ext C P H μ H' μ') {v : V} : ∀ {t : T}, RT C H μ v t → (t.own = true → ∀ a, v = .ref a → ¬ P a) → RT C H' μ' v t
  | .im d, r, _ => RD.ext e r
  | .vl ds, ⟨a, vs, e1, h, r, n, z⟩, q => ⟨a, vs, e1, e.keep a _ h rfl n (q rfl a e1), r.ext e, e.notin h rfl n (q rfl a e1), z⟩
  | .vd kvs, ⟨a, ps, e1, h, r, n, z⟩, q => ⟨a, ps, e1, e.keep a _ h rfl n (q rfl a e1), r.ext e, e.notin h rfl n (q rfl a e1), z⟩
theorem RT.ext0 (e : Ext C no H μ H' μ') {v : V} {t : T} (r : RT C H μ v t) : RT C H' μ' v t := r.ext e fun _ _ _ z => z
/-- an object's description leans on its own place, on tuples and on the store's addresses -/
theorem MOk.ext (e : Ext C P H μ H' μ') {a : Addr} (ha : H' a = H a) : ∀ {o : MO}, MOk C H μ a o → MOk C H' μ' a o
  | .lst ds, ⟨vs, h, r, z⟩ => ⟨vs, by rw [ha]; exact h, r.ext e, z⟩
  | .dic kvs, ⟨ps, h, r, z⟩ => ⟨ps, by rw [ha]; exact h, r.ext e, z⟩
  | .ins c fs, ⟨A, dx, ps, hc, h, r, z⟩ => ⟨A, dx, ps, hc, by rw [ha]; exact h, r.ext e, z⟩
  | .fdic kvs, ⟨o, ps, h, r, z⟩ => ⟨o, ps, by rw [ha]; exact h, r.ext e, z⟩
/-- what stands in the store is no tuple, and is there -/
theorem MOk.notup {a : Addr} : ∀ {o : MO}, MOk C H μ a o → ∀ vs, ¬ Rd H a (.tup vs)
  | .lst ds, ⟨vs, h, _⟩, ws, q => by rcases q with q | ⟨o, q⟩ <;> (rw [h] at q; cases q)
  | .dic ds, ⟨vs, h, _⟩, ws, q => by rcases q with q | ⟨o, q⟩ <;> (rw [h] at q; cases q)
  | .ins c fs, ⟨_, _, _, _, h, _⟩, ws, q => by rcases q with q | ⟨o, q⟩ <;> (rw [h] at q; cases q)
  | .fdic ds, ⟨o, ps, h, _⟩, ws, q => by rcases q with q | ⟨o, q⟩ <;> (rw [h] at q; cases q)
theorem SR.at (s : SR C H μ S) {n : Nat} {o : MO} (h : S[n]? = some o) : ∃ a, μ[n]? = some a ∧ MOk C H μ a o := by
  have hn : n < μ.length := by rw [s.len]; exact (List.getElem?_eq_some_iff.mp h).1
  exact ⟨μ[n], by simp [hn], s.ok n _ o (by simp [hn]) h⟩
theorem SR.mem (s : SR C H μ S) {a : Addr} (h : a ∈ μ) : ∃ (n : Nat) (o : MO), μ[n]? = some a ∧ S[n]? = some o ∧ MOk C H μ a o := by
  obtain ⟨n, hn⟩ := List.getElem?_of_mem h
  have hl : n < S.length := by rw [← s.len]; exact (List.getElem?_eq_some_iff.mp hn).1
  exact ⟨n, S[n], hn, by simp [hl], s.ok n _ _ hn (by simp [hl])⟩
theorem MOk.there {a : Addr} : ∀ {o : MO}, MOk C H μ a o → ∃ u, H a = some u ∧ isT u = false
  | .lst ds, ⟨vs, h, _⟩ => ⟨_, h, rfl⟩
  | .dic ds, ⟨vs, h, _⟩ => ⟨_, h, rfl⟩
  | .ins c fs, ⟨_, _, _, _, h, _⟩ => ⟨_, h, rfl⟩
  | .fdic ds, ⟨o, ps, h, _⟩ => ⟨_, h, rfl⟩
theorem SR.freshN (s : SR C H μ S) {a : Addr} (h : Nw H a) : a ∉ μ := fun z => by
  obtain ⟨n, o, _, _, m⟩ := s.mem z
  obtain ⟨u, e, t⟩ := m.there
  rw [h u e] at t; cases t
theorem SR.fresh (s : SR C H μ S) {a : Addr} (h : H a = none) : a ∉ μ := s.freshN (.of h)
/-- a new object, not of the store -/
theorem Ext.laid {a : Addr} {o : HO} (hn : H a = none) : Ext C P H μ (upd H a o) μ :=
  ⟨⟨[], by simp, by simp⟩, fun b u e _ _ _ => by rw [upd_ne (ne_of_none e hn)]; exact e, fun b vs h => by
    rcases h with (h | ⟨u, h⟩) | h
    · exact .inl (.inl (by rw [upd_ne (ne_of_none h hn)]; exact h))
    · exact .inl (.inr ⟨u, by rw [upd_ne (ne_of_none h hn)]; exact h⟩)
    · exact .inr h, fun b w u h => by rw [upd_ne (ne_of_none h hn)]; exact h, fun b u e t => ⟨u, by rw [upd_ne (ne_of_none e hn)]; exact e, t⟩,
    fun t => t.ext fun b u e => by rw [upd_ne (ne_of_none e hn)]; exact e⟩
/-- an object changes, of the store or one of those that may change, that is no tuple -/
theorem Ext.changed {a : Addr} {o u : HO} (hP : a ∈ μ ∨ P a) (h : H a = some u) (nt : ∀ vs, ¬ Rd H a (.tup vs)) (pl : plainO u = true) (plo : isT o = false) : Ext C P H μ (upd H a o) μ := by
  have ne : ∀ b w, H b = some w → plainO w = false → b ≠ a := fun b w e q z => by
    rw [z, h] at e
    cases e
    rw [pl] at q; cases q
  refine ⟨⟨[], by simp, by simp⟩, fun b v e _ h1 h2 => ?_, fun b vs h' => ?_, fun b w x h' => ?_, fun b v e t => ?_, fun tt p hp => ?_⟩
  · have hb : b ≠ a := fun z => by
      rcases hP with q | q
      · exact h1 (z ▸ q)
      · exact h2 (z ▸ q)
    rw [upd_ne hb]; exact e
  · have hb : Rd H b (.tup vs) → b ≠ a := fun r z => nt vs (z ▸ r)
    rcases h' with h' | h'
    · have q := hb h'
      rcases h' with h' | ⟨v, h'⟩
      · exact .inl (.inl (by rw [upd_ne q]; exact h'))
      · exact .inl (.inr ⟨v, by rw [upd_ne q]; exact h'⟩)
    · exact .inr h'
  · rw [upd_ne (ne _ _ h' rfl)]; exact h'
  · by_cases hb : b = a
    · exact ⟨o, by rw [hb, upd_same], plo⟩
    · exact ⟨v, by rw [upd_ne hb]; exact e, t⟩
  · obtain ⟨ps, t1, t2, t3⟩ := tt p hp
    refine ⟨ps, by rw [upd_ne (ne _ _ t1 rfl)]; exact t1, t2, fun pos cv hc => ?_⟩
    obtain ⟨c, e1, e2⟩ := t3 pos cv hc
    exact ⟨c, e1, by rw [upd_ne (ne _ _ e2 rfl)]; exact e2⟩
/-- an address comes to the store -/
theorem Ext.push {a : Addr} (h : P a) : Ext C P H μ H (μ ++ [a]) :=
  ⟨⟨[a], rfl, fun b hb => .inr (by rw [List.mem_singleton.mp hb]; exact h)⟩, fun _ _ e _ _ _ => e, fun _ _ e => e, fun _ _ _ e => e, fun _ o e t => ⟨o, e, t⟩, id⟩
/-- the store goes on where each of its places is as it was -/
theorem SR.ext (s : SR C H μ S) (e : Ext C P H μ H' μ) (h : ∀ a ∈ μ, H' a = H a) : SR C H' μ S :=
  ⟨s.len, s.nd, fun n a o h1 h2 => (s.ok n a o h1 h2).ext e (h a (List.mem_of_getElem? h1)), e.tab s.tabs⟩
theorem SR.laid (s : SR C H μ S) {a : Addr} {o : HO} (hn : H a = none) : SR C (upd H a o) μ S :=
  s.ext (Ext.laid (P := no) hn) fun b hb => upd_ne fun z => s.fresh hn (z ▸ hb)
/-- an object comes to the store -/
theorem SR.push (s : SR C H μ S) {a : Addr} {o : MO} (hm : a ∉ μ) (h : MOk C H (μ ++ [a]) a o) : SR C H (μ ++ [a]) (S ++ [o]) := by
  refine ⟨by simp [s.len], ?_, fun n b u h1 h2 => ?_, s.tabs⟩
  · exact List.nodup_append.mpr ⟨s.nd, List.nodup_cons.mpr ⟨by simp, List.nodup_nil⟩, fun x hx y hy z => hm (by rw [List.mem_singleton.mp hy] at z; exact z ▸ hx)⟩
  · by_cases hn : n < μ.length
    · rw [List.getElem?_append_left hn] at h1
      rw [List.getElem?_append_left (by rw [← s.len]; exact hn)] at h2
      exact (s.ok n b u h1 h2).ext (Ext.push (P := fun _ => True) trivial) rfl
    · have hl : n < (μ ++ [a]).length := (List.getElem?_eq_some_iff.mp h1).1
      have hn' : n = μ.length := by simp at hl; omega
      subst hn'
      rw [List.getElem?_append_right (Nat.le_refl _)] at h1
      rw [List.getElem?_append_right (by rw [s.len]; exact Nat.le_refl _)] at h2
      simp at h1
      simp [s.len] at h2
      subst h1; subst h2
      exact h
/-- an object of the store changes -/
theorem SR.set (s : SR C H μ S) {n : Nat} {a : Addr} {o : MO} {u : HO} (hn : μ[n]? = some a) (e : Ext C P H μ (upd H a u) μ) (h : MOk C (upd H a u) μ a o) : SR C (upd H a u) μ (S.set n o) := by
  refine ⟨by simp [s.len], s.nd, fun m b v h1 h2 => ?_, e.tab s.tabs⟩
  have hnl := (List.getElem?_eq_some_iff.mp hn).1
  by_cases hm : m = n
  · subst hm
    rw [hn] at h1; cases h1
    rw [List.getElem?_set_self (by rw [← s.len]; exact hnl)] at h2
    cases h2
    exact h
  · rw [List.getElem?_set_ne (Ne.symm hm)] at h2
    refine (s.ok m b v h1 h2).ext e (upd_ne fun z => hm ?_)
    subst z
    exact ((List.getElem?_inj hnl s.nd).mp (hn.trans h1.symm)).symm
end
end DL

/-! The data layer: what it says of a piece of syntax that it does as a plain function tells. -/
namespace DL
open PySem PySem.Spec L2

/-- the addresses that slots alone hold -/
def Own (σ : St) (ρ : Ev) (a : Addr) : Prop := ∃ (i : Nat) (t : T), ρ[i]? = some (some t) ∧ t.own = true ∧ σ[i]? = some (some (V.ref a))
structure Rel (C : Cn) (H : Hp) (μ : List Addr) (σ : St) (ρ : Ev) (S : Sto) : Prop where
  sr : SR C H μ S
  len : σ.length = ρ.length
  at_ : ∀ (i : Nat) (t : T), ρ[i]? = some (some t) → ∃ v, σ[i]? = some (some v) ∧ RT C H μ v t
  apart : ∀ (i j : Nat) (t u : T) (a : Addr), ρ[i]? = some (some t) → t.own = true → ρ[j]? = some (some u) → u.own = true → σ[i]? = some (some (V.ref a)) → σ[j]? = some (some (V.ref a)) → i = j
def Fresh (H : Hp) (v : V) (t : T) : Prop := t.own = true → ∃ a, v = .ref a ∧ Nw H a
/-- an exception's payload as it lies in the exception's own dict -/
def XRel (C : Cn) (H : Hp) (μ : List Addr) (e : Exc) (cv : Value) (dx : Option Addr) : Prop :=
  ∃ A, C.mg e.c = some (.ref A) ∧ cv = .ref A ∧ (e.p ≠ [] → ∃ d ps, dx = some d ∧ H d = some (.xd ps) ∧ FD C H μ ps e.p ∧ d ∉ μ)
/-- what an exception's end must bring -/
def PostX (C : Cn) (W : XK) (P : Addr → Prop) (H : Hp) (μ : List Addr) (e : Exc) (S' : Sto) : Prop :=
  ∀ cv dx H' μ', Ext C P H μ H' μ' → SR C H' μ' S' → XRel C H' μ' e cv dx → W cv dx H'
/-- what an expression's end must bring -/
def PostE (C : Cn) (W : XK) (b : Bool) (H : Hp) (μ : List Addr) (Q : VK) : Res T → Prop
  | .ok t S' => ∀ v H' μ', Ext C no H μ H' μ' → RT C H' μ' v t → (b = false → Fresh H v t) → SR C H' μ' S' → Q v H'
  | .exc e S' => PostX C W no H μ e S'
  | .stuck => False
/-- the reading: b: whether what it gives may be a slot's own -/
def tD (C : Cn) (W : XK) (b : Bool) (m : M) : TE := fun σ H Q => ∃ ρ μ S, Rel C H μ σ ρ S ∧ PostE C W b H μ Q (m ρ S)
/-- arguments: new ones that stand apart from one another -/
structure Args (C : Cn) (H H' : Hp) (μ' : List Addr) (vs : List V) (ts : List T) : Prop where
  rt : Paired (RT C H' μ') vs ts
  fr : Paired (Fresh H) vs ts
  apart : ∀ (i j : Nat) (t u : T) (a : Addr), ts[i]? = some t → t.own = true → ts[j]? = some u → u.own = true → vs[i]? = some (V.ref a) → vs[j]? = some (V.ref a) → i = j
def PostA (C : Cn) (W : XK) (H : Hp) (μ : List Addr) (Q : List V → Hp → Prop) : Res (List T) → Prop
  | .ok ts S' => ∀ vs H' μ', Ext C no H μ H' μ' → Args C H H' μ' vs ts → SR C H' μ' S' → Q vs H'
  | .exc e S' => PostX C W no H μ e S'
  | .stuck => False
abbrev MA := Ev → Sto → Res (List T)
def tDA (C : Cn) (W : XK) (m : MA) : TA := fun σ H Q => ∃ ρ μ S, Rel C H μ σ ρ S ∧ PostA C W H μ Q (m ρ S)
def PostT (C : Cn) (W : XK) (H : Hp) (μ : List Addr) (Q : Bool → Hp → Prop) : Res T → Prop
  | .ok (.im (.bl b)) S' => ∀ H' μ', Ext C no H μ H' μ' → SR C H' μ' S' → Q b H'
  | .ok _ _ => False
  | .exc e S' => PostX C W no H μ e S'
  | .stuck => False
def tDT (C : Cn) (W : XK) (m : M) : TT := fun σ H Q => ∃ ρ μ S, Rel C H μ σ ρ S ∧ PostT C W H μ Q (m ρ S)
abbrev DE (X : Cx) (C : Cn) (W : XK) (b : Bool) (e : Expr) (m : M) : Prop := PE X e (tD C W b m)
abbrev DT (X : Cx) (C : Cn) (W : XK) (e : Expr) (m : M) : Prop := PT X e (tDT C W m)
abbrev DA (X : Cx) (C : Cn) (W : XK) (es : List Expr) (m : MA) : Prop := PA X es (tDA C W m)

/-! ### a reading may be replaced by one that asks more -/
section
variable {X : Cx}
theorem impE {e : Expr} {t t' : TE} (h : PE X e t) (k : ∀ σ H Q, t' σ H Q → t σ H Q) : PE X e t' := ⟨fun pins s σ H Q I q => h.run pins s σ H Q I (k _ _ _ q)⟩
theorem impT {e : Expr} {t t' : TT} (h : PT X e t) (k : ∀ σ H Q, t' σ H Q → t σ H Q) : PT X e t' := ⟨fun pins s σ H Q I q => h.run pins s σ H Q I (k _ _ _ q)⟩
theorem impA {e : List Expr} {t t' : TA} (h : PA X e t) (k : ∀ σ H Q, t' σ H Q → t σ H Q) : PA X e t' := ⟨fun pos pins s σ H Q I q => h.run pos pins s σ H Q I (k _ _ _ q)⟩
theorem impS {e : Stmt} {t t' : TS} (h : PS X e t) (k : ∀ D σ H, t' D σ H → t D σ H) : PS X e t' := ⟨fun pins s σ H D I q => h.run pins s σ H D I (k _ _ _ q)⟩
theorem impSs {e : List Stmt} {t t' : TS} (h : PSs X e t) (k : ∀ D σ H, t' D σ H → t D σ H) : PSs X e t' := ⟨fun pins s σ H D I q => h.run pins s σ H D I (k _ _ _ q)⟩
end

section
variable {C : Cn} {W : XK} {H H' H2 : Hp} {μ μ' μ2 : List Addr} {σ : St} {ρ : Ev} {S S' : Sto} {Q : VK} {b b' b1 b2 : Bool} {P : Addr → Prop}
theorem no_or {b : Addr} {Q : Prop} (z : no b) : Q := z.elim
theorem Ext.then0 (e : Ext C P H μ H' μ') (f : Ext C no H' μ' H2 μ2) : Ext C P H μ H2 μ2 := e.trans f fun _ z => no_or z
theorem Rel.ext (R : Rel C H μ σ ρ S) (e : Ext C no H μ H' μ') (s : SR C H' μ' S') : Rel C H' μ' σ ρ S' :=
  ⟨s, R.len, fun i t h => let ⟨v, h1, h2⟩ := R.at_ i t h; ⟨v, h1, h2.ext0 e⟩, R.apart⟩
theorem nw_back (e : Ext C P H μ H' μ') {a : Addr} (h : Nw H' a) : Nw H a := fun o z => by
  cases t : isT o with
  | true => rfl
  | false =>
    obtain ⟨o', e3, t'⟩ := e.live a o z t
    rw [h o' e3] at t'; cases t'
theorem none_back (e : Ext C P H μ H' μ') {a : Addr} (h : H' a = none) : Nw H a := nw_back e (.of h)
theorem Fresh.ext (e : Ext C P H μ H' μ') {v : V} {t : T} (f : Fresh H' v t) : Fresh H v t := fun q => by
  obtain ⟨a, e1, e2⟩ := f q
  exact ⟨a, e1, nw_back e e2⟩
theorem XRel.ext (e : Ext C no H μ H' μ') {x : Exc} {cv : Value} {dx : Option Addr} (r : XRel C H μ x cv dx) : XRel C H' μ' x cv dx := by
  obtain ⟨A, h1, h2, h3⟩ := r
  refine ⟨A, h1, h2, fun q => ?_⟩
  obtain ⟨d, ps, e1, e2, e3, e4⟩ := h3 q
  exact ⟨d, ps, e1, e.keep d _ e2 rfl e4 id, e3.ext e, e.notin e2 rfl e4 id⟩
theorem PostX.ext (e : Ext C no H μ H' μ') {x : Exc} (p : PostX C W no H μ x S') : PostX C W no H' μ' x S' := fun cv dx H2 μ2 e2 s xr => p cv dx H2 μ2 (e.then0 e2) s xr
theorem PostE.ext (e : Ext C no H μ H' μ') {r : Res T} (p : PostE C W b H μ Q r) : PostE C W b H' μ' Q r := by
  cases r with
  | ok t S' => exact fun v H2 μ2 e2 rt f s => p v H2 μ2 (e.then0 e2) rt (fun q => (f q).ext e) s
  | exc x S' => exact PostX.ext e p
  | stuck => exact p
theorem PostT.ext (e : Ext C no H μ H' μ') {Q : Bool → Hp → Prop} {r : Res T} (p : PostT C W H μ Q r) : PostT C W H' μ' Q r := by
  cases r with
  | ok t S' =>
    cases t with
    | im d =>
      cases d with
      | bl b => exact fun H2 μ2 e2 s => p H2 μ2 (e.then0 e2) s
      | _ => exact p
    | _ => exact p
  | exc x S' => exact PostX.ext e p
  | stuck => exact p
/-! ### one after another -/
def bind {α β : Type} (m : Ev → Sto → Res α) (k : α → Ev → Sto → Res β) : Ev → Sto → Res β := fun ρ S => match m ρ S with
  | .ok t S' => k t ρ S'
  | .exc e S' => .exc e S'
  | .stuck => .stuck
/-- the first part of a reading -/
theorem read1 {m : M} {Q' : VK} (R : Rel C H μ σ ρ S) {k : T → M} (p : PostE C W b H μ Q (bind m k ρ S))
    (hk : ∀ t S1 v H1 μ1, Ext C no H μ H1 μ1 → RT C H1 μ1 v t → (b' = false → Fresh H v t) → Rel C H1 μ1 σ ρ S1 → PostE C W b H1 μ1 Q (k t ρ S1) → PostE C W b H μ Q (k t ρ S1) → Q' v H1) : tD C W b' m σ H Q' := by
  refine ⟨ρ, μ, S, R, ?_⟩
  unfold bind at p
  cases e : m ρ S with
  | ok t S1 =>
    rw [e] at p
    exact fun v H1 μ1 e1 rt f s => hk t S1 v H1 μ1 e1 rt f (R.ext e1 s) (PostE.ext e1 p) p
  | exc x S1 =>
    rw [e] at p
    exact p
  | stuck =>
    rw [e] at p
    exact p
theorem read1T {m : M} {Q' : VK} {Q : Bool → Hp → Prop} (R : Rel C H μ σ ρ S) {k : T → M} (p : PostT C W H μ Q (bind m k ρ S))
    (hk : ∀ t S1 v H1 μ1, Ext C no H μ H1 μ1 → RT C H1 μ1 v t → (b' = false → Fresh H v t) → Rel C H1 μ1 σ ρ S1 → PostT C W H1 μ1 Q (k t ρ S1) → Q' v H1) : tD C W b' m σ H Q' := by
  refine ⟨ρ, μ, S, R, ?_⟩
  unfold bind at p
  cases e : m ρ S with
  | ok t S1 =>
    rw [e] at p
    exact fun v H1 μ1 e1 rt f s => hk t S1 v H1 μ1 e1 rt f (R.ext e1 s) (PostT.ext e1 p)
  | exc x S1 =>
    rw [e] at p
    exact p
  | stuck =>
    rw [e] at p
    exact p
/-- a test first -/
theorem readT {m : M} {Q' : Bool → Hp → Prop} (R : Rel C H μ σ ρ S) {k : T → M} (p : PostE C W b H μ Q (bind m k ρ S)) (hb : ∀ t S1, (∀ c, t ≠ .im (.bl c)) → k t ρ S1 = .stuck)
    (hk : ∀ c S1 H1 μ1, Ext C no H μ H1 μ1 → Rel C H1 μ1 σ ρ S1 → PostE C W b H1 μ1 Q (k (.im (.bl c)) ρ S1) → PostE C W b H μ Q (k (.im (.bl c)) ρ S1) → Q' c H1) : tDT C W m σ H Q' := by
  refine ⟨ρ, μ, S, R, ?_⟩
  unfold bind at p
  cases e : m ρ S with
  | ok t S1 =>
    rw [e] at p
    by_cases hc : ∃ c, t = .im (.bl c)
    · obtain ⟨c, rfl⟩ := hc
      exact fun H1 μ1 e1 s => hk c S1 H1 μ1 e1 (R.ext e1 s) (PostE.ext e1 p) p
    · have z := hb t S1 (fun c q => hc ⟨c, q⟩)
      have p' : PostE C W b H μ Q (k t ρ S1) := p
      rw [z] at p'
      exact p'.elim
  | exc x S1 =>
    rw [e] at p
    exact p
  | stuck =>
    rw [e] at p
    exact p
theorem readTT {m : M} {Q Q' : Bool → Hp → Prop} (R : Rel C H μ σ ρ S) {k : T → M} (p : PostT C W H μ Q (bind m k ρ S)) (hb : ∀ t S1, (∀ c, t ≠ .im (.bl c)) → k t ρ S1 = .stuck)
    (hk : ∀ c S1 H1 μ1, Ext C no H μ H1 μ1 → Rel C H1 μ1 σ ρ S1 → PostT C W H1 μ1 Q (k (.im (.bl c)) ρ S1) → Q' c H1) : tDT C W m σ H Q' := by
  refine ⟨ρ, μ, S, R, ?_⟩
  unfold bind at p
  cases e : m ρ S with
  | ok t S1 =>
    rw [e] at p
    by_cases hc : ∃ c, t = .im (.bl c)
    · obtain ⟨c, rfl⟩ := hc
      exact fun H1 μ1 e1 s => hk c S1 H1 μ1 e1 (R.ext e1 s) (PostT.ext e1 p)
    · have z := hb t S1 (fun c q => hc ⟨c, q⟩)
      have p' : PostT C W H μ Q (k t ρ S1) := p
      rw [z] at p'
      exact p'.elim
  | exc x S1 =>
    rw [e] at p
    exact p
  | stuck =>
    rw [e] at p
    exact p
end

/-! ### operations on values -/
abbrev O1 := T → Sto → Res T
abbrev O2 := T → T → Sto → Res T
def un (m : M) (f : O1) : M := bind m fun t _ S => f t S
def bin (m n : M) (f : O2) : M := bind m fun t => bind n fun u _ S => f t u S
/-- what an operation's rule asks is what the plain function tells -/
def Op1 (C : Cn) (W : XK) (b : Bool) (f : O1) (r : V → Hp → VK → Prop) : Prop := ∀ H μ S v t Q, SR C H μ S → RT C H μ v t → PostE C W b H μ Q (f t S) → r v H Q
def Op2 (C : Cn) (W : XK) (b : Bool) (f : O2) (r : R2) : Prop := ∀ H μ S v u t t' Q, SR C H μ S → RT C H μ v t → RT C H μ u t' → PostE C W b H μ Q (f t t' S) → r v u H Q
section
variable {C : Cn} {W : XK} {X : Cx} {a c : Expr} {pos : Pos} {b b1 b2 : Bool} {m n : M}
theorem rd_un {f : O1} {r : V → Hp → VK → Prop} (h : Op1 C W b f r) {σ : St} {H : Hp} {Q : VK} (q : tD C W b (un m f) σ H Q) : tUn r (tD C W b1 m) σ H Q := by
  obtain ⟨ρ, μ, S, R, p⟩ := q
  exact read1 R p fun t S1 v H1 μ1 e1 rt f' R1 p1 _ => h H1 μ1 S1 v t Q R1.sr rt p1
theorem rd_bin {f : O2} {r : R2} (h : Op2 C W b f r) {σ : St} {H : Hp} {Q : VK} (q : tD C W b (bin m n f) σ H Q) : tOp r (tD C W b1 m) (tD C W b2 n) σ H Q := by
  obtain ⟨ρ, μ, S, R, p⟩ := q
  exact read1 R p fun t S1 v H1 μ1 e1 rt f' R1 p1 _ => read1 R1 p1 fun u S2 w H2 μ2 e2 ru g R2 p2 _ => h H2 μ2 S2 v w t u Q R2.sr (rt.ext0 e2) ru p2
theorem de_op {op : Operator} {f : O2} {r : R2} (ho : OpR X (binaryOp op) r) (h : Op2 C W b f r) (ha : DE X C W b1 a m) (hc : DE X C W b2 c n) : DE X C W b (.BinOp a op c pos) (bin m n f) :=
  impE (pe_op ho ha hc) fun _ _ _ q => rd_bin h q
theorem de_un {op : UnaryOp} {f : O1} {r : V → Hp → VK → Prop} (ho : UnR X (unaryOp op) r) (h : Op1 C W b f r) (ha : DE X C W b1 a m) : DE X C W b (.UnaryOp op a pos) (un m f) :=
  impE (pe_un ho ha) fun _ _ _ q => rd_un h q
theorem de_cmp {op : CmpOp} {f : O2} {r : R2} (ho : OpR X (compareOp op) r) (h : Op2 C W b f r) (ha : DE X C W b1 a m) (hc : DE X C W b2 c n) (hm : behindInMarks op c = false) : DE X C W b (.Compare a [op] [c] pos) (bin m n f) :=
  impE (pe_cmpR ho ha hc hm) fun _ _ _ q => rd_bin h q
/-- an operation that gives truth values alone -/
def Op2T (C : Cn) (W : XK) (f : O2) (r : R2) : Prop := ∀ H μ S v u t t' Q, SR C H μ S → RT C H μ v t → RT C H μ u t' → PostT C W H μ Q (f t t' S) → r v u H fun x H' => ∃ k, x = .bl k ∧ Q k H'
theorem dt_cmp {op : CmpOp} {f : O2} {r : R2} (ho : OpR X (compareOp op) r) (h : Op2T C W f r) (ha : DE X C W b1 a m) (hc : DE X C W b2 c n) (hm : behindInMarks op c = false) : DT X C W (.Compare a [op] [c] pos) (bin m n f) := by
  refine impT (pt_cmpR ho ha hc hm) fun σ H Q q => ?_
  obtain ⟨ρ, μ, S, R, p⟩ := q
  exact read1T R p fun t S1 v H1 μ1 e1 rt f' R1 p1 => read1T R1 p1 fun u S2 w H2 μ2 e2 ru g R2 p2 => h H2 μ2 S2 v w t u Q R2.sr (rt.ext0 e2) ru p2
end
/-! ### names and constants -/
section
variable {C : Cn} {W : XK} {X : Cx} {pos : Pos} {b : Bool}
/-- a slot; where nothing of the slot's own may be given, it is stuck -/
def slot (b : Bool) (i : Nat) : M := fun ρ S => match ρ[i]? with
  | some (some t) => if t.own && !b then .stuck else .ok t S
  | _ => .stuck
def cst (d : D) : M := fun _ S => .ok (.im d) S
theorem de_slot {i : Nat} {x : Str} (hN : X.N[i]? = some x) (hv : Vis X.env.scope x) (hd : (x == ("__debug__" : Str)) = false) (hcd : (x == ("__classdict__" : Str)) = false) : DE X C W b (.Name x pos) (slot b i) := by
  refine impE (pe_var hN hv hd hcd) fun σ H Q q => ?_
  obtain ⟨ρ, μ, S, R, p⟩ := q
  unfold slot at p
  split at p
  · rename_i t e
    split at p
    · exact p.elim
    · rename_i hb
      obtain ⟨v, e1, rt⟩ := R.at_ i t e
      refine ⟨v, e1, p v H μ Ext.refl rt (fun q o => ?_) R.sr⟩
      subst q
      rw [o] at hb
      exact absurd rfl hb
  · exact p.elim
theorem rd_cst {d : D} {v : V} {σ : St} {H : Hp} {Q : VK} (hr : ∀ H μ, RD C H μ v d) (q : tD C W b (cst d) σ H Q) : tC v σ H Q := by
  obtain ⟨ρ, μ, S, R, p⟩ := q
  exact p v H μ Ext.refl (hr H μ) (fun _ z => Bool.noConfusion z) R.sr
theorem de_int {i : Int} {j} : DE X C W b (.Constant (.int i) j pos) (cst (.int i)) := impE pe_int fun _ _ _ q => rd_cst (fun _ _ => .int i) q
theorem de_bl {i : Bool} {j} : DE X C W b (.Constant (.bool i) j pos) (cst (.bl i)) := impE pe_bl fun _ _ _ q => rd_cst (fun _ _ => .bl i) q
theorem de_non {j} : DE X C W b (.Constant .none j pos) (cst .non) := impE pe_non fun _ _ _ q => rd_cst (fun _ _ => .non) q
theorem de_str {i : Str} {j} : DE X C W b (.Constant (.str i) j pos) (cst (.str i)) := impE pe_str fun _ _ _ q => rd_cst (fun _ _ => .str i) q
theorem de_glob {x : Str} {v : V} {u : Value} {d : D} (hg : Gl X x) (hm : X.mg x = some u) (r : RelV v u) (hr : ∀ H μ, RD C H μ v d) (hd : (x == ("__debug__" : Str)) = false) : DE X C W b (.Name x pos) (cst d) :=
  impE (pe_glob hg hm r hd) fun _ _ _ q => rd_cst hr q
end

/-! ### and, or, not, if -/
section
variable {C : Cn} {W : XK} {X : Cx} {a c d : Expr} {rest : List Expr} {pos : Pos} {b b1 b2 : Bool} {m n o : M}
def andM (m n : M) : M := bind m fun t => match t with
  | .im (.bl true) => n
  | .im (.bl false) => fun _ S => .ok (.im (.bl false)) S
  | _ => fun _ _ => .stuck
def orM (m n : M) : M := bind m fun t => match t with
  | .im (.bl false) => n
  | .im (.bl true) => fun _ S => .ok (.im (.bl true)) S
  | _ => fun _ _ => .stuck
def notM (m : M) : M := bind m fun t => match t with
  | .im (.bl k) => fun _ S => .ok (.im (.bl !k)) S
  | _ => fun _ _ => .stuck
def iteM (m n o : M) : M := bind m fun t => match t with
  | .im (.bl true) => n
  | .im (.bl false) => o
  | _ => fun _ _ => .stuck
theorem rt_bl {H : Hp} {μ : List Addr} {v : V} {k : Bool} (r : RT C H μ v (.im (.bl k))) : v = .bl k := by cases r; rfl
theorem de_and (ha : DE X C W b1 a m) (hc : DE X C W b2 (.BoolOp .And (c :: rest) pos) n) (h2 : b2 = b) : DE X C W b (.BoolOp .And (a :: c :: rest) pos) (andM m n) := by
  subst h2
  refine impE (pe_and ha hc) fun σ H Q q => ?_
  obtain ⟨ρ, μ, S, R, p⟩ := q
  refine read1 R p fun t S1 v H1 μ1 e1 rt f' R1 p1 _ => ?_
  split at p1
  · exact ⟨true, rt_bl rt, by rw [if_pos rfl]; exact ⟨ρ, μ1, S1, R1, p1⟩⟩
  · exact ⟨false, rt_bl rt, by rw [if_neg (by decide)]; exact p1 _ H1 μ1 Ext.refl (.bl false) (fun _ z => Bool.noConfusion z) R1.sr⟩
  · exact p1.elim
theorem de_or (ha : DE X C W b1 a m) (hc : DE X C W b2 (.BoolOp .Or (c :: rest) pos) n) (h2 : b2 = b) : DE X C W b (.BoolOp .Or (a :: c :: rest) pos) (orM m n) := by
  subst h2
  refine impE (pe_or ha hc) fun σ H Q q => ?_
  obtain ⟨ρ, μ, S, R, p⟩ := q
  refine read1 R p fun t S1 v H1 μ1 e1 rt f' R1 p1 _ => ?_
  split at p1
  · exact ⟨false, rt_bl rt, by rw [if_neg (by decide)]; exact ⟨ρ, μ1, S1, R1, p1⟩⟩
  · exact ⟨true, rt_bl rt, by rw [if_pos rfl]; exact p1 _ H1 μ1 Ext.refl (.bl true) (fun _ z => Bool.noConfusion z) R1.sr⟩
  · exact p1.elim
theorem de_one {op} (ha : DE X C W b a m) : DE X C W b (.BoolOp op [a] pos) m := pe_one ha
theorem de_not (ha : DE X C W b1 a m) : DE X C W b (.UnaryOp .Not a pos) (notM m) := by
  refine impE (pe_not ha) fun σ H Q q => ?_
  obtain ⟨ρ, μ, S, R, p⟩ := q
  refine read1 R p fun t S1 v H1 μ1 e1 rt f' R1 p1 _ => ?_
  split at p1
  · exact ⟨_, rt_bl rt, p1 _ H1 μ1 Ext.refl (.bl _) (fun _ z => Bool.noConfusion z) R1.sr⟩
  · exact p1.elim
theorem de_ite (hd : DT X C W d m) (ha : DE X C W b a n) (hc : DE X C W b c o) : DE X C W b (.IfExp d a c pos) (iteM m n o) := by
  refine impE (pe_ifExp hd ha hc) fun σ H Q q => ?_
  obtain ⟨ρ, μ, S, R, p⟩ := q
  refine readT R p (fun t S1 h => ?_) fun k S1 H1 μ1 e1 R1 p1 _ => ?_
  · cases t with
    | im d => cases d with
      | bl k => exact absurd rfl (h k)
      | _ => rfl
    | _ => rfl
  · cases k with
    | true => rw [if_pos rfl]; exact ⟨ρ, μ1, S1, R1, p1⟩
    | false => rw [if_neg (by decide)]; exact ⟨ρ, μ1, S1, R1, p1⟩
/-! tests -/
theorem dt_val (ha : DE X C W b a m) (he : ∀ whole, isTrue a X.env whole = (do let v ← whole; standAt a.pos; holding [v] (truthy v))) : DT X C W a m := by
  refine impT (pt_val ha he) fun σ H Q q => ?_
  obtain ⟨ρ, μ, S, R, p⟩ := q
  refine ⟨ρ, μ, S, R, ?_⟩
  cases e : m ρ S with
  | ok t S1 =>
    rw [e] at p
    cases t with
    | im d => cases d with
      | bl k => exact fun v H1 μ1 e1 rt f s => ⟨k, rt_bl rt, p H1 μ1 e1 s⟩
      | _ => exact p.elim
    | _ => exact p.elim
  | exc x S1 => rw [e] at p; exact p
  | stuck => rw [e] at p; exact p
theorem dt_not (ha : DT X C W a m) : DT X C W (.UnaryOp .Not a pos) (notM m) := by
  refine impT (pt_not ha) fun σ H Q q => ?_
  obtain ⟨ρ, μ, S, R, p⟩ := q
  refine readTT R p (fun t S1 h => ?_) fun k S1 H1 μ1 e1 R1 p1 => ?_
  · cases t with
    | im d => cases d with
      | bl k => exact absurd rfl (h k)
      | _ => rfl
    | _ => rfl
  · exact p1 H1 μ1 Ext.refl R1.sr
theorem dw_and1 (ha : DT X C W a m) : PW X (.BoolOp .And [a] pos) (tDT C W m) := pw_and1 ha
theorem dw_or1 (ha : DT X C W a m) : PW X (.BoolOp .Or [a] pos) (tDT C W m) := pw_or1 ha
theorem dw_and (ha : DT X C W a m) (hc : PW X (.BoolOp .And (c :: rest) pos) (tDT C W n)) : PW X (.BoolOp .And (a :: c :: rest) pos) (tDT C W (andM m n)) := by
  refine ⟨fun wh pins s σ H Q I q => (pw_and ha hc).run wh pins s σ H Q I ?_⟩
  obtain ⟨ρ, μ, S, R, p⟩ := q
  refine readTT R p (fun t S1 h => ?_) fun k S1 H1 μ1 e1 R1 p1 => ?_
  · cases t with
    | im d => cases d with
      | bl k => exact absurd rfl (h k)
      | _ => rfl
    | _ => rfl
  · cases k with
    | true => rw [if_pos rfl]; exact ⟨ρ, μ1, S1, R1, p1⟩
    | false => rw [if_neg (by decide)]; exact p1 H1 μ1 Ext.refl R1.sr
theorem dw_or (ha : DT X C W a m) (hc : PW X (.BoolOp .Or (c :: rest) pos) (tDT C W n)) : PW X (.BoolOp .Or (a :: c :: rest) pos) (tDT C W (orM m n)) := by
  refine ⟨fun wh pins s σ H Q I q => (pw_or ha hc).run wh pins s σ H Q I ?_⟩
  obtain ⟨ρ, μ, S, R, p⟩ := q
  refine readTT R p (fun t S1 h => ?_) fun k S1 H1 μ1 e1 R1 p1 => ?_
  · cases t with
    | im d => cases d with
      | bl k => exact absurd rfl (h k)
      | _ => rfl
    | _ => rfl
  · cases k with
    | true => rw [if_pos rfl]; exact p1 H1 μ1 Ext.refl R1.sr
    | false => rw [if_neg (by decide)]; exact ⟨ρ, μ1, S1, R1, p1⟩
end
end DL

/-! The data layer: operators, comparisons, displays, items, slices, scalar built-ins. -/
namespace DL
open PySem PySem.Spec L2

section
variable {C : Cn} {W : XK} {H H' : Hp} {μ μ' : List Addr} {S : Sto} {v u : V} {t t' : T} {Q : VK} {b : Bool}
/-! ### ends -/
theorem end_im {d : D} {v : V} (s : SR C H μ S) (r : RD C H μ v d) (p : PostE C W b H μ Q (.ok (.im d) S)) : Q v H :=
  p v H μ Ext.refl r (fun _ z => Bool.noConfusion z) s
theorem end_bl {k k' : Bool} (s : SR C H μ S) (p : PostE C W b H μ Q (.ok (.im (.bl k)) S)) (e : k = k' := by rfl) : Q (.bl k') H := by subst e; exact end_im s (.bl k) p
theorem end_int {k : Int} (s : SR C H μ S) (p : PostE C W b H μ Q (.ok (.im (.int k)) S)) : Q (.int k) H := end_im s (.int k) p
/-- a new tuple -/
theorem end_tup {ds : List D} {vs : List V} {a : Addr} (s : SR C H μ S) (hn : H a = none) (r : RDs C H μ vs ds) (hz : ds.length ≤ line) (p : PostE C W b H μ Q (.ok (.im (.tup ds)) S)) : Q (.ref a) (upd H a (.tup vs)) :=
  p _ _ μ (Ext.laid hn) (.tup (.of upd_same) (r.ext (Ext.laid (P := no) hn)) hz) (fun _ z => Bool.noConfusion z) (s.laid hn)
theorem end_vl {ds : List D} {vs : List V} {a : Addr} (s : SR C H μ S) (hn : H a = none) (r : RDs C H μ vs ds) (hz : ds.length ≤ line) (p : PostE C W b H μ Q (.ok (.vl ds) S)) : Q (.ref a) (upd H a (.lst vs)) :=
  p _ _ μ (Ext.laid hn) ⟨a, vs, rfl, upd_same, r.ext (Ext.laid (P := no) hn), s.fresh hn, hz⟩ (fun _ _ => ⟨a, rfl, .of hn⟩) (s.laid hn)
theorem end_vd {ds : List (Key × D)} {vs : List (Key × V)} {a : Addr} (s : SR C H μ S) (hn : H a = none) (r : KD C H μ vs ds) (hz : ds.length ≤ line) (hd : (ds.map (·.1)).Nodup) (p : PostE C W b H μ Q (.ok (.vd ds) S)) : Q (.ref a) (upd H a (.dK vs)) :=
  p _ _ μ (Ext.laid hn) ⟨a, vs, rfl, upd_same, r.ext (Ext.laid (P := no) hn), s.fresh hn, hz, hd⟩ (fun _ _ => ⟨a, rfl, .of hn⟩) (s.laid hn)

/-! ### what lies behind a value -/
/-- the items of a list that may be changed -/
def lstW (S : Sto) : T → Option (List D)
  | .vl ds => some ds
  | .im (.ref n) => (match S[n]? with
    | some (.lst ds) => some ds
    | _ => none)
  | _ => none
def lstOf (S : Sto) : T → Option (List D)
  | .im (.kl ds) => some ds
  | t => lstW S t
def seqOf (S : Sto) : T → Option (List D)
  | .im (.tup ds) => some ds
  | t => lstOf S t
theorem lstW_ok {ds : List D} (s : SR C H μ S) (r : RT C H μ v t) (e : lstW S t = some ds) : ∃ a vs, v = .ref a ∧ H a = some (.lst vs) ∧ RDs C H μ vs ds ∧ ds.length ≤ line := by
  unfold lstW at e
  split at e
  · cases e
    obtain ⟨a, vs, e1, h, r1, _, z⟩ := r
    exact ⟨a, vs, e1, h, r1, z⟩
  · rename_i n
    split at e
    · rename_i ds' e'
      cases e
      cases r with
      | ref h =>
        have e' : S[n]? = some (MO.lst ds) := e'
        obtain ⟨vs, h1, r1, z⟩ := s.ok _ _ _ h e'
        exact ⟨_, vs, rfl, h1, r1, z⟩
    · cases e
  · cases e
theorem lstOf_ok {ds : List D} (s : SR C H μ S) (r : RT C H μ v t) (e : lstOf S t = some ds) : ∃ a vs, v = .ref a ∧ SqL C.K H a vs ∧ RDs C H μ vs ds ∧ ds.length ≤ line := by
  unfold lstOf at e
  split at e
  · cases e
    cases r with
    | kl h r1 z => exact ⟨_, _, rfl, h.seq, r1, z⟩
  · obtain ⟨a, vs, e1, h, r1, z⟩ := lstW_ok s r e
    exact ⟨a, vs, e1, .of h, r1, z⟩
theorem seqOf_ok {ds : List D} (s : SR C H μ S) (r : RT C H μ v t) (e : seqOf S t = some ds) : ∃ a vs, v = .ref a ∧ (SqL C.K H a vs ∨ SqT C.K H a vs) ∧ RDs C H μ vs ds ∧ ds.length ≤ line := by
  unfold seqOf at e
  split at e
  · cases e
    cases r with
    | tup h r1 z => exact ⟨_, _, rfl, .inr h, r1, z⟩
  · obtain ⟨a, vs, e1, h, r1, z⟩ := lstOf_ok s r e
    exact ⟨a, vs, e1, .inl h, r1, z⟩
/-- the pairs of a dict -/
def dicOf (S : Sto) : T → Option (List (Key × D))
  | .vd kvs => some kvs
  | .im (.ref n) => (match S[n]? with
    | some (.dic kvs) => some kvs
    | some (.fdic kvs) => some kvs
    | _ => none)
  | _ => none
theorem dicOf_ok {kvs : List (Key × D)} (s : SR C H μ S) (r : RT C H μ v t) (e : dicOf S t = some kvs) : ∃ a ps, v = .ref a ∧ Rd H a (.dK ps) ∧ KD C H μ ps kvs ∧ kvs.length ≤ line ∧ (kvs.map (·.1)).Nodup := by
  unfold dicOf at e
  split at e
  · cases e
    obtain ⟨a, vs, e1, h, r1, _, z⟩ := r
    exact ⟨a, vs, e1, .inl h, r1, z⟩
  · rename_i n
    split at e
    · rename_i ds' e'
      cases e
      cases r with
      | ref h =>
        have e' : S[n]? = some (MO.dic kvs) := e'
        obtain ⟨vs, h1, r1, z⟩ := s.ok _ _ _ h e'
        exact ⟨_, vs, rfl, .inl h1, r1, z⟩
    · rename_i ds' e'
      cases e
      cases r with
      | ref h =>
        have e' : S[n]? = some (MO.fdic kvs) := e'
        obtain ⟨o, vs, h1, r1, z⟩ := s.ok _ _ _ h e'
        exact ⟨_, vs, rfl, .inr ⟨o, h1⟩, r1, z⟩
    · cases e
  · cases e

/-! ### ints -/
def opI (c : Int → Int → Bool) (f : Int → Int → Int) : O2 := fun x y S => match x, y with
  | .im (.int i), .im (.int j) => if c i j then .ok (.im (.int (f i j))) S else .stuck
  | _, _ => .stuck
theorem opI_ok {c : Int → Int → Bool} {f : Int → Int → Int} {P : Int → Int → Prop} (h : ∀ i j, c i j = true → P i j) : Op2 C W b (opI c f) (rI P fun i j => .int (f i j)) := by
  intro H μ S v u t t' Q s r1 r2 p
  unfold opI at p
  split at p
  · cases r1; cases r2
    split at p
    · rename_i i j hc
      exact ⟨i, j, rfl, rfl, h _ _ hc, end_int s p⟩
    · exact p.elim
  · exact p.elim
def opI0 (f : Int → Int → Int) : O2 := fun x y S => match x, y with
  | .im (.int i), .im (.int j) => .ok (.im (.int (f i j))) S
  | _, _ => .stuck
theorem opI0_ok {f : Int → Int → Int} : Op2 C W b (opI0 f) (rI0 fun i j => .int (f i j)) := by
  intro H μ S v u t t' Q s r1 r2 p
  unfold opI0 at p
  split at p
  · cases r1; cases r2
    exact ⟨_, _, rfl, rfl, end_int s p⟩
  · exact p.elim
def cmpI (f : Int → Int → Bool) : O2 := fun x y S => match x, y with
  | .im (.int i), .im (.int j) => .ok (.im (.bl (f i j))) S
  | _, _ => .stuck
theorem cmpI_ok {f : Int → Int → Bool} : Op2 C W b (cmpI f) (rI0 fun i j => .bl (f i j)) := by
  intro H μ S v u t t' Q s r1 r2 p
  unfold cmpI at p
  split at p
  · cases r1; cases r2
    exact ⟨_, _, rfl, rfl, end_im s (.bl _) p⟩
  · exact p.elim
theorem postT_of {r : Res T} {Q : Bool → Hp → Prop} (p : PostT C W H μ Q r) : PostE C W true H μ (fun x H' => ∃ k, x = .bl k ∧ Q k H') r := by
  cases r with
  | ok t S1 =>
    cases t with
    | im d => cases d with
      | bl k => exact fun v H1 μ1 e1 rt f s => ⟨k, rt_bl rt, p H1 μ1 e1 s⟩
      | _ => exact p.elim
    | _ => exact p.elim
  | exc x S1 => exact p
  | stuck => exact p
theorem Op2.T {f : O2} {r : R2} (h : Op2 C W true f r) : Op2T C W f r := fun H μ S v u t t' Q s r1 r2 p => h H μ S v u t t' _ s r1 r2 (postT_of p)
def mulC (i j : Int) : Bool := (decide (-18446744073709551616 < i) && decide (i < 18446744073709551616)) || (decide (-18446744073709551616 < j) && decide (j < 18446744073709551616))
theorem mulC_ok : ∀ i j, mulC i j = true → CMul i j := fun i j h => by
  unfold mulC at h
  simp only [Bool.or_eq_true, Bool.and_eq_true, decide_eq_true_eq] at h
  exact h
def divC (_ j : Int) : Bool := decide (0 < j) && decide (j < 1073741824)
theorem divC_ok : ∀ i j, divC i j = true → CDiv i j := fun i j h => by
  unfold divC at h
  simp only [Bool.and_eq_true, decide_eq_true_eq] at h
  exact h
def modC (_ j : Int) : Bool := decide (0 < j)
def powC (i j : Int) : Bool := decide (0 ≤ j) && (decide (j ≤ 1000000) && decide (i.natAbs < 18446744073709551616))
theorem powC_ok : ∀ i j, powC i j = true → CPow i j := fun i j h => by
  unfold powC at h
  simp only [Bool.and_eq_true, decide_eq_true_eq] at h
  exact h
def negO : O1 := fun x S => match x with
  | .im (.int i) => .ok (.im (.int (-i))) S
  | _ => .stuck
theorem negO_ok : Op1 C W b negO (rU fun i => .int (-i)) := by
  intro H μ S v t Q s r p
  unfold negO at p
  split at p
  · cases r
    exact ⟨_, rfl, end_int s p⟩
  · exact p.elim

/-! ### a + b -/
def catO (x y : Option (List D)) (S : Sto) : Res T := match x, y with
  | some xs, some ys => if xs.length + ys.length ≤ line then .ok (.vl (xs ++ ys)) S else .stuck
  | _, _ => .stuck
def addO : O2 := fun x y S => match x, y with
  | .im (.int i), .im (.int j) => .ok (.im (.int (i + j))) S
  | .im (.str i), .im (.str j) => if i.length + j.length ≤ line then .ok (.im (.str (i ++ j))) S else .stuck
  | .im (.tup i), .im (.tup j) => if i.length + j.length ≤ line then .ok (.im (.tup (i ++ j))) S else .stuck
  | x, y => catO (lstW S x) (lstW S y) S
def rAddD (K : PySem.W.Frag) : R2 := fun x y H Q => rI0 (fun i j => .int (i + j)) x y H Q ∨ (∃ i j, x = .str i ∧ y = .str j ∧ i.length + j.length ≤ sizeLine ∧ Q (.str (i ++ j)) H) ∨ rCatA K x y H Q ∨ rCat x y H Q
theorem addO_op {X : Cx} : OpR X (binaryOp .Add) (rAddD X.K) := op_add.or (op_add_str.or (op_catA.or op_cat))
theorem addO_ok : Op2 C W b addO (rAddD C.K) := by
  intro H μ S v u t t' Q s r1 r2 p
  unfold addO at p
  split at p
  · cases r1; cases r2
    exact .inl ⟨_, _, rfl, rfl, end_int s p⟩
  · cases r1; cases r2
    split at p
    · rename_i hz
      exact .inr (.inl ⟨_, _, rfl, rfl, by rw [line_eq]; exact hz, end_im s (.str _) p⟩)
    · exact p.elim
  · split at p
    · rename_i hz
      cases r1 with
      | tup h1 q1 z1 => cases r2 with
        | tup h2 q2 z2 =>
          rename_i i j a vs a' vs'
          refine .inr (.inr (.inl ⟨a, a', vs, vs', rfl, rfl, h1, h2, by rw [q1.length, q2.length, line_eq]; exact hz, fun e => ?_, fun e1 e2 => ?_, fun e1 e2 x hx => ?_⟩))
          · subst e
            cases q1
            exact end_im s (.tup h2 q2 z2) p
          · subst e2
            cases q2
            rw [List.append_nil] at p
            exact end_im s (.tup h1 q1 z1) p
          · exact end_tup s hx (q1.append q2) (by simpa using hz) p
    · exact p.elim
  · unfold catO at p
    split at p
    · rename_i xs ys ex ey
      split at p
      · rename_i hz
        obtain ⟨a, vs, rfl, h1, q1, _⟩ := lstW_ok s r1 ex
        obtain ⟨a', vs', rfl, h2, q2, _⟩ := lstW_ok s r2 ey
        exact .inr (.inr (.inr ⟨a, a', vs, vs', rfl, rfl, h1, h2, by rw [q1.length, q2.length, line_eq]; exact hz, fun x hx => end_vl s hx (q1.append q2) (by simpa using hz) p⟩))
      · exact p.elim
    · exact p.elim
end
end DL

/-! The data layer: equality, in, is, dicts read, items, slices. -/
namespace DL
open PySem PySem.Spec L2

/-! ### data as the library tells it -/
def mapO {α β : Type} (f : α → Option β) : List α → Option (List β)
  | [] => some []
  | x :: xs => (match f x with
    | none => none
    | some y => (match mapO f xs with
      | none => none
      | some ys => some (y :: ys)))
def scal : D → Option PyData
  | .non => some .none
  | .bl b => some (.bool b)
  | .int i => some (.int i)
  | .str x => some (.str x)
  | _ => none
def toPy (S : Sto) : Nat → D → Option PyData
  | 0, d => scal d
  | n + 1, .tup ds => (mapO (toPy S n) ds).map .tuple
  | n + 1, .kl ds => (mapO (toPy S n) ds).map .list
  | n + 1, .ref k => (match S[k]? with
    | some (.lst ds) => (mapO (toPy S n) ds).map .list
    | _ => none)
  | _ + 1, d => scal d
def pyT (S : Sto) : T → Option PyData
  | .im d => toPy S 200 d
  | .vl ds => (mapO (toPy S 200) ds).map .list
  | .vd _ => none
section
variable {C : Cn} {W : XK} {H : Hp} {μ : List Addr} {S : Sto} {b : Bool}
theorem scal_ok {v : V} {d : D} {p : PyData} (r : RD C H μ v d) (e : scal d = some p) : Dp C.K H v p := by
  unfold scal at e
  cases r <;> first | (cases e <;> constructor) | cases e
theorem mapO_ok {f : D → Option PyData} (h : ∀ v d p, RD C H μ v d → f d = some p → Dp C.K H v p) : ∀ {vs : List V} {ds : List D} {ps : List PyData}, RDs C H μ vs ds → mapO f ds = some ps → DpAll C.K H vs ps
  | _, _, _, .nil, e => by cases e; exact .nil
  | _, _, _, .cons (d := d) (ds := ds) r t, e => by
    unfold mapO at e
    cases e1 : f d with
    | none => rw [e1] at e; cases e
    | some y =>
      rw [e1] at e
      cases e2 : mapO f ds with
      | none => rw [e2] at e; cases e
      | some ys =>
        rw [e2] at e
        cases e
        exact .cons (h _ _ _ r e1) (mapO_ok h t e2)
theorem toPy_ok (s : SR C H μ S) : ∀ (n : Nat) (v : V) (d : D) (p : PyData), RD C H μ v d → toPy S n d = some p → Dp C.K H v p
  | 0, v, d, p, r, e => scal_ok r e
  | n + 1, v, d, p, r, e => by
    cases d with
    | tup ds =>
      have e : (mapO (toPy S n) ds).map .tuple = some p := e
      cases r with
      | tup h t z =>
        cases e2 : mapO (toPy S n) ds with
        | none => rw [e2] at e; cases e
        | some ys => rw [e2] at e; cases e; exact .tup h (mapO_ok (toPy_ok s n) t e2)
    | kl ds =>
      have e : (mapO (toPy S n) ds).map .list = some p := e
      cases r with
      | kl h t z =>
        cases e2 : mapO (toPy S n) ds with
        | none => rw [e2] at e; cases e
        | some ys => rw [e2] at e; cases e; exact .lst h.seq (mapO_ok (toPy_ok s n) t e2)
    | ref k =>
      have e : (match S[k]? with
        | some (.lst ds) => (mapO (toPy S n) ds).map .list
        | _ => none) = some p := e
      cases r with
      | ref h =>
        split at e
        · rename_i ds e1
          obtain ⟨vs, h1, t, z⟩ := s.ok _ _ _ h e1
          cases e2 : mapO (toPy S n) ds with
          | none => rw [e2] at e; cases e
          | some ys => rw [e2] at e; cases e; exact .lst (.of h1) (mapO_ok (toPy_ok s n) t e2)
        · cases e
    | non => exact scal_ok r e
    | bl _ => exact scal_ok r e
    | int _ => exact scal_ok r e
    | str _ => exact scal_ok r e
    | kd _ _ => exact scal_ok r e
    | fn _ => exact scal_ok r e
theorem pyT_ok (s : SR C H μ S) {v : V} {t : T} {p : PyData} (r : RT C H μ v t) (e : pyT S t = some p) : Dp C.K H v p := by
  unfold pyT at e
  split at e
  · exact toPy_ok s _ _ _ _ r e
  · rename_i ds
    obtain ⟨a, vs, rfl, h, t, _, _⟩ := r
    cases e2 : mapO (toPy S 200) ds with
    | none => rw [e2] at e; cases e
    | some ys => rw [e2] at e; cases e; exact .lst (.of h) (mapO_ok (toPy_ok s 200) t e2)
  · cases e
/-! ### == -/
def eqvO (p q : Option PyData) : Option Bool := match p, q with
  | some p, some q => if p.canLay0 && (q.canLay0 && decide (min p.depth q.depth ≤ 64)) then some (PyData.eqv p q) else none
  | _, _ => none
theorem eqvO_ok {p q : Option PyData} {r : Bool} (h : eqvO p q = some r) : ∃ x y, p = some x ∧ q = some y ∧ x.canLay0 = true ∧ y.canLay0 = true ∧ min x.depth y.depth ≤ 64 ∧ PyData.eqv x y = r := by
  unfold eqvO at h
  split at h
  · rename_i x y
    split at h
    · rename_i hc
      simp only [Bool.and_eq_true, decide_eq_true_eq] at hc
      cases h
      exact ⟨x, y, rfl, rfl, hc.1, hc.2.1, hc.2.2, rfl⟩
    · cases h
  · cases h
def eqT (S : Sto) (x y : T) : Option Bool := eqvO (pyT S x) (pyT S y)
def eqO : O2 := fun x y S => match eqT S x y with
  | some r => .ok (.im (.bl r)) S
  | none => .stuck
def neO : O2 := fun x y S => match eqT S x y with
  | some r => .ok (.im (.bl !r)) S
  | none => .stuck
def rEqM (K : PySem.W.Frag) : R2 := fun x y H Q => ∃ d e, Dp K H x d ∧ Dp K H y e ∧ d.canLay0 = true ∧ e.canLay0 = true ∧ min d.depth e.depth ≤ 64 ∧ Q (.bl (PyData.eqv d e)) H
def rNeM (K : PySem.W.Frag) : R2 := fun x y H Q => ∃ d e, Dp K H x d ∧ Dp K H y e ∧ d.canLay0 = true ∧ e.canLay0 = true ∧ min d.depth e.depth ≤ 64 ∧ Q (.bl (!PyData.eqv d e)) H
theorem op_eqM {X : Cx} (hu : X.A.units + 66 < cLine) : OpR X (compareOp .Eq) (rEqM X.K) := by
  intro pins s σ H x y v u Q I rx ry h
  obtain ⟨d, e, hd, he, sd, se, hm, q⟩ := h
  obtain ⟨as, r1⟩ := Dp.reads I d x v hd rx
  obtain ⟨bs, r2⟩ := Dp.reads I e y u he ry
  exact SeqAt.compareEq_reads r1 r2 sd se (by omega) ⟨.bl _, H, I, rfl, q⟩
theorem op_neM {X : Cx} (hu : X.A.units + 66 < cLine) : OpR X (compareOp .NotEq) (rNeM X.K) := by
  intro pins s σ H x y v u Q I rx ry h
  obtain ⟨d, e, hd, he, sd, se, hm, q⟩ := h
  obtain ⟨as, r1⟩ := Dp.reads I d x v hd rx
  obtain ⟨bs, r2⟩ := Dp.reads I e y u he ry
  exact SeqAt.compareNe_reads r1 r2 sd se (by omega) ⟨.bl _, H, I, rfl, q⟩
theorem eqO_ok : Op2 C W b eqO (rEqM C.K) := by
  intro H μ S v u t t' Q s r1 r2 p
  unfold eqO at p
  split at p
  · rename_i r e
    obtain ⟨x, y, e1, e2, c1, c2, hm, rfl⟩ := eqvO_ok e
    exact ⟨x, y, pyT_ok s r1 e1, pyT_ok s r2 e2, c1, c2, hm, end_im s (.bl _) p⟩
  · exact p.elim
theorem neO_ok : Op2 C W b neO (rNeM C.K) := by
  intro H μ S v u t t' Q s r1 r2 p
  unfold neO at p
  split at p
  · rename_i r e
    obtain ⟨x, y, e1, e2, c1, c2, hm, rfl⟩ := eqvO_ok e
    exact ⟨x, y, pyT_ok s r1 e1, pyT_ok s r2 e2, c1, c2, hm, end_im s (.bl _) p⟩
  · exact p.elim

/-! ### is -/
def isO : O2 := fun x y S => match x, y with
  | .im d, .im .non => (match d with
    | .non => .ok (.im (.bl true)) S
    | _ => .ok (.im (.bl false)) S)
  | .vl _, .im .non => .ok (.im (.bl false)) S
  | .vd _, .im .non => .ok (.im (.bl false)) S
  | .im (.bl i), .im (.bl j) => .ok (.im (.bl (decide (i = j)))) S
  | _, _ => .stuck
def isnO : O2 := fun x y S => match x, y with
  | .im d, .im .non => (match d with
    | .non => .ok (.im (.bl false)) S
    | _ => .ok (.im (.bl true)) S)
  | .vl _, .im .non => .ok (.im (.bl true)) S
  | .vd _, .im .non => .ok (.im (.bl true)) S
  | .im (.bl i), .im (.bl j) => .ok (.im (.bl (!decide (i = j)))) S
  | _, _ => .stuck
def rIsM : R2 := fun x y H Q => (y = .non ∧ Q (.bl (decide (x = .non))) H) ∨ rIsB x y H Q
def rNotM : R2 := fun x y H Q => (y = .non ∧ Q (.bl (!decide (x = .non))) H) ∨ rNotB x y H Q
theorem op_isM {X : Cx} : OpR X (compareOp .Is) rIsM := op_isN.or op_isBl
theorem op_notM {X : Cx} : OpR X (compareOp .IsNot) rNotM := op_notN.or op_notBl
theorem isO_ok : Op2 C W b isO rIsM := by
  intro H μ S v u t t' Q s r1 r2 p
  unfold isO at p
  split at p
  · cases r2
    refine .inl ⟨rfl, ?_⟩
    split at p
    · cases r1; exact end_im s (.bl _) p
    · rename_i hd
      have : v ≠ .non := fun z => by subst z; cases r1; exact hd rfl
      rw [decide_eq_false this]
      exact end_im s (.bl _) p
  · cases r2
    obtain ⟨a, vs, rfl, _⟩ := r1
    exact .inl ⟨rfl, end_im s (.bl _) p⟩
  · cases r2
    obtain ⟨a, vs, rfl, _⟩ := r1
    exact .inl ⟨rfl, end_im s (.bl _) p⟩
  · cases r1; cases r2
    exact .inr ⟨_, _, rfl, rfl, end_im s (.bl _) p⟩
  · exact p.elim
theorem isnO_ok : Op2 C W b isnO rNotM := by
  intro H μ S v u t t' Q s r1 r2 p
  unfold isnO at p
  split at p
  · cases r2
    refine .inl ⟨rfl, ?_⟩
    split at p
    · cases r1; exact end_im s (.bl _) p
    · rename_i hd
      have : v ≠ .non := fun z => by subst z; cases r1; exact hd rfl
      rw [decide_eq_false this]
      exact end_im s (.bl _) p
  · cases r2
    obtain ⟨a, vs, rfl, _⟩ := r1
    exact .inl ⟨rfl, end_im s (.bl _) p⟩
  · cases r2
    obtain ⟨a, vs, rfl, _⟩ := r1
    exact .inl ⟨rfl, end_im s (.bl _) p⟩
  · cases r1; cases r2
    exact .inr ⟨_, _, rfl, rfl, end_im s (.bl _) p⟩
  · exact p.elim

/-! ### dicts -/
def getK {α : Type} : List (Key × α) → Key → Option α
  | [], _ => none
  | p :: r, k => if p.1 = k then some p.2 else getK r k
def putD {α : Type} : List (Key × α) → Key → α → List (Key × α)
  | [], k, d => [(k, d)]
  | p :: r, k, d => if p.1 = k then (p.1, d) :: r else p :: putD r k d
def dropD {α : Type} (kvs : List (Key × α)) (k : Key) : List (Key × α) := kvs.filter fun p => decide (p.1 ≠ k)
def keyD : T → Option Key
  | .im (.int i) => some (.inl i)
  | .im (.str x) => some (.inr x)
  | _ => none
theorem keyD_ok {v : V} {t : T} {k : Key} (r : RT C H μ v t) (e : keyD t = some k) : v = kV k := by
  unfold keyD at e
  split at e
  · cases e; cases r; rfl
  · cases e; cases r; rfl
  · cases e
theorem valV_cons (p : Key × V) (r : List (Key × V)) (k : Key) : valV (p :: r) k = if p.1 = k then some p.2 else valV r k := by
  by_cases e : p.1 = k
  · rw [if_pos e, valV_pos e]
  · rw [if_neg e, valV_neg e]
theorem KD.get {ps : List (Key × V)} {kvs : List (Key × D)} (k : Key) (h : KD C H μ ps kvs) : (∀ d, getK kvs k = some d → ∃ v, valV ps k = some v ∧ RD C H μ v d) ∧ (getK kvs k = none → valV ps k = none) := by
  induction h with
  | nil => exact ⟨fun d e => (by cases e), fun _ => rfl⟩
  | @cons p q l1 l2 r t ih =>
    obtain ⟨h1, h2⟩ := ih
    obtain ⟨e, rd⟩ := r
    unfold getK
    rw [valV_cons, e]
    by_cases c : q.1 = k
    · rw [if_pos c, if_pos c]
      exact ⟨fun d z => by cases z; exact ⟨_, rfl, rd⟩, fun z => by cases z⟩
    · rw [if_neg c, if_neg c]
      exact ⟨h1, h2⟩
theorem KD.keys {ps : List (Key × V)} {kvs : List (Key × D)} (r : KD C H μ ps kvs) : ps.map (·.1) = kvs.map (·.1) := by
  induction r with
  | nil => rfl
  | cons h t ih => rw [List.map_cons, List.map_cons, h.1, ih]
theorem getK_none {α : Type} : ∀ {kvs : List (Key × α)} {k : Key}, getK kvs k = none ↔ k ∉ kvs.map (·.1)
  | [], k => by simp [getK]
  | p :: r, k => by
    unfold getK
    by_cases c : p.1 = k
    · simp [c]
    · rw [if_neg c, getK_none (kvs := r)]
      simp only [List.map_cons, List.mem_cons, not_or]
      exact ⟨fun h => ⟨fun z => c z.symm, h⟩, fun h => h.2⟩
theorem putD_keys_in {α : Type} : ∀ {kvs : List (Key × α)} {k : Key} {d : α}, k ∈ kvs.map (·.1) → (putD kvs k d).map (·.1) = kvs.map (·.1)
  | [], k, d, h => by simp at h
  | p :: r, k, d, h => by
    unfold putD
    by_cases c : p.1 = k
    · rw [if_pos c]; rfl
    · rw [if_neg c, List.map_cons, List.map_cons, putD_keys_in]
      rcases List.mem_cons.mp h with z | z
      · exact absurd z.symm c
      · exact z
theorem putD_new {α : Type} : ∀ {kvs : List (Key × α)} {k : Key} {d : α}, k ∉ kvs.map (·.1) → putD kvs k d = kvs ++ [(k, d)]
  | [], k, d, h => rfl
  | p :: r, k, d, h => by
    unfold putD
    rw [List.map_cons, List.mem_cons, not_or] at h
    rw [if_neg fun z => h.1 z.symm, putD_new h.2, List.cons_append]
theorem putD_nd {α : Type} {kvs : List (Key × α)} {k : Key} {d : α} (h : (kvs.map (·.1)).Nodup) : ((putD kvs k d).map (·.1)).Nodup := by
  by_cases m : k ∈ kvs.map (·.1)
  · rw [putD_keys_in m]; exact h
  · rw [putD_new m, List.map_append]
    exact List.nodup_append.mpr ⟨h, List.nodup_cons.mpr ⟨by simp, List.nodup_nil⟩, fun x hx y hy z => m (by
      have : y = k := by simpa using hy
      rw [this] at z; exact z ▸ hx)⟩
theorem putD_len {α : Type} : ∀ {kvs : List (Key × α)} {k : Key} {d : α}, (putD kvs k d).length ≤ kvs.length + 1
  | [], k, d => by simp [putD]
  | p :: r, k, d => by
    unfold putD
    by_cases c : p.1 = k
    · rw [if_pos c]; simp
    · rw [if_neg c, List.length_cons, List.length_cons]
      have := putD_len (kvs := r) (k := k) (d := d)
      omega
theorem putK_cons_ne {p : Key × V} {r : List (Key × V)} {k : Key} {v : V} (c : ¬ p.1 = k) : putK (p :: r) k v = p :: putK r k v := by
  unfold putK
  rw [List.any_cons, decide_eq_false c, Bool.false_or]
  split
  · rw [List.map_cons, if_neg c]
  · rfl
theorem putK_cons_eq {p : Key × V} {r : List (Key × V)} {k : Key} {v : V} (c : p.1 = k) (h : k ∉ r.map (·.1)) : putK (p :: r) k v = (p.1, v) :: r := by
  unfold putK
  rw [List.any_cons, decide_eq_true c, Bool.true_or, if_pos rfl, List.map_cons, if_pos c]
  congr 1
  have : ∀ q ∈ r, (if q.1 = k then (q.1, v) else q) = q := fun q hq => if_neg fun z => h (by rw [← z]; exact List.mem_map_of_mem hq)
  rw [List.map_congr_left this, List.map_id']
theorem KD.put {k : Key} {v : V} {d : D} (rd : RD C H μ v d) {ps : List (Key × V)} {kvs : List (Key × D)} (h : KD C H μ ps kvs) : (kvs.map (·.1)).Nodup → KD C H μ (putK ps k v) (putD kvs k d) := by
  induction h with
  | nil =>
    intro _
    show KD C H μ (putK [] k v) [(k, d)]
    exact .cons ⟨rfl, rd⟩ .nil
  | @cons p q l1 l2 r t ih =>
    intro nd
    have nd : (q.1 :: l2.map (·.1)).Nodup := nd
    obtain ⟨n1, n2⟩ := List.nodup_cons.mp nd
    have kk := KD.keys t
    unfold putD
    by_cases c : q.1 = k
    · rw [if_pos c, putK_cons_eq (r.1.trans c) (by rw [kk, ← c]; exact n1)]
      exact .cons ⟨r.1, rd⟩ t
    · rw [if_neg c, putK_cons_ne (by rw [r.1]; exact c)]
      exact .cons r (ih n2)
theorem KD.drop {k : Key} {ps : List (Key × V)} {kvs : List (Key × D)} (h : KD C H μ ps kvs) : KD C H μ (dropK ps k) (dropD kvs k) := by
  induction h with
  | nil => exact .nil
  | @cons p q l1 l2 r t ih =>
    unfold dropK dropD at ih ⊢
    rw [List.filter_cons, List.filter_cons, r.1]
    split
    · exact .cons r ih
    · exact ih
theorem dropD_nd {α : Type} {kvs : List (Key × α)} {k : Key} (h : (kvs.map (·.1)).Nodup) : ((dropD kvs k).map (·.1)).Nodup := h.sublist (List.Sublist.map _ List.filter_sublist)
theorem dropD_len {α : Type} {kvs : List (Key × α)} {k : Key} : (dropD kvs k).length ≤ kvs.length := List.length_filter_le _ _
end
end DL

/-! The data layer: arguments, displays, what comes to the store. -/
namespace DL
open PySem PySem.Spec L2

/-! ### what stands apart comes to the store -/
def esc (t : T) (S : Sto) : D × Sto := match t with
  | .im d => (d, S)
  | .vl ds => (.ref S.length, S ++ [.lst ds])
  | .vd kvs => (.ref S.length, S ++ [.dic kvs])
def escs : List T → Sto → List D × Sto
  | [], S => ([], S)
  | t :: ts, S => ((esc t S).1 :: (escs ts (esc t S).2).1, (escs ts (esc t S).2).2)
theorem escs_len : ∀ (ts : List T) (S : Sto), (escs ts S).1.length = ts.length
  | [], _ => rfl
  | t :: ts, S => by simp [escs, escs_len ts]
section
variable {C : Cn} {W : XK} {H H' : Hp} {μ μ' : List Addr} {S S' : Sto} {Q : VK} {b : Bool} {P : Addr → Prop}
theorem esc_ok {v : V} {t : T} (r : RT C H μ v t) (s : SR C H μ S) (hP : t.own = true → ∀ a, v = .ref a → P a) :
    ∃ μ1, Ext C P H μ H μ1 ∧ RD C H μ1 v (esc t S).1 ∧ SR C H μ1 (esc t S).2 ∧ ∀ b ∈ μ1, b ∈ μ ∨ (t.own = true ∧ v = .ref b) := by
  cases t with
  | im d => exact ⟨μ, Ext.refl, r, s, fun b h => .inl h⟩
  | vl ds =>
    obtain ⟨a, vs, rfl, h, r1, n, z⟩ := r
    have e : Ext C P H μ H (μ ++ [a]) := Ext.push (hP rfl a rfl)
    refine ⟨μ ++ [a], e, .ref (by rw [← s.len]; simp), s.push n ⟨vs, h, r1.ext e, z⟩, fun b hb => ?_⟩
    rcases List.mem_append.mp hb with q | q
    · exact .inl q
    · rw [List.mem_singleton.mp q]; exact .inr ⟨rfl, rfl⟩
  | vd kvs =>
    obtain ⟨a, vs, rfl, h, r1, n, z⟩ := r
    have e : Ext C P H μ H (μ ++ [a]) := Ext.push (hP rfl a rfl)
    refine ⟨μ ++ [a], e, .ref (by rw [← s.len]; simp), s.push n ⟨vs, h, r1.ext e, z⟩, fun b hb => ?_⟩
    rcases List.mem_append.mp hb with q | q
    · exact .inl q
    · rw [List.mem_singleton.mp q]; exact .inr ⟨rfl, rfl⟩
/-- all of a row of new values -/
theorem escs_ok : ∀ {ts : List T} {vs : List V} {μ : List Addr} {S : Sto}, Paired (RT C H μ) vs ts →
    (∀ (i j : Nat) (t u : T) (a : Addr), ts[i]? = some t → t.own = true → ts[j]? = some u → u.own = true → vs[i]? = some (V.ref a) → vs[j]? = some (V.ref a) → i = j) →
    (∀ (i : Nat) (t : T) (a : Addr), ts[i]? = some t → t.own = true → vs[i]? = some (V.ref a) → P a) → SR C H μ S →
    ∃ μ1, Ext C P H μ H μ1 ∧ RDs C H μ1 vs (escs ts S).1 ∧ SR C H μ1 (escs ts S).2 := by
  intro ts
  induction ts with
  | nil =>
    intro vs μ S h _ _ s
    cases h
    exact ⟨μ, Ext.refl, .nil, s⟩
  | cons t ts ih =>
    intro vs μ S h ap hp s
    cases h with
    | @cons v _ vs _ r rs =>
      obtain ⟨μ1, e1, r1, s1, m1⟩ := esc_ok r s fun o a ea => hp 0 t a rfl o (by rw [ea]; rfl)
      -- the others are as they were
      have stay : Paired (RT C H μ1) vs ts := by
        have : ∀ (j : Nat) (w : V) (u : T), vs[j]? = some w → ts[j]? = some u → RT C H μ w u → RT C H μ1 w u := fun j w u hw hu q => by
          cases u with
          | im d => exact RD.ext e1 q
          | vl ds =>
            obtain ⟨a, ws, rfl, h, q1, n, z⟩ := q
            refine ⟨a, ws, rfl, h, q1.ext e1, fun hm => ?_, z⟩
            rcases m1 a hm with x | ⟨o, x⟩
            · exact n x
            · have := ap 0 (j + 1) t (.vl ds) a rfl o hu rfl (by rw [x]; rfl) hw
              omega
          | vd ds =>
            obtain ⟨a, ws, rfl, h, q1, n, z⟩ := q
            refine ⟨a, ws, rfl, h, q1.ext e1, fun hm => ?_, z⟩
            rcases m1 a hm with x | ⟨o, x⟩
            · exact n x
            · have := ap 0 (j + 1) t (.vd ds) a rfl o hu rfl (by rw [x]; rfl) hw
              omega
        have all : ∀ {ws : List V} {us : List T}, Paired (RT C H μ) ws us → (∀ (j : Nat) (w : V) (u : T), ws[j]? = some w → us[j]? = some u → RT C H μ w u → RT C H μ1 w u) → Paired (RT C H μ1) ws us := by
          intro ws us h
          induction h with
          | nil => exact fun _ => .nil
          | cons r t ih => exact fun k => .cons (k 0 _ _ rfl rfl r) (ih fun j w u h1 h2 => k (j + 1) w u h1 h2)
        exact all rs this
      obtain ⟨μ2, e2, r2, s2⟩ := ih stay (fun i j t' u a h1 h2 h3 h4 h5 h6 => by
        have := ap (i + 1) (j + 1) t' u a h1 h2 h3 h4 h5 h6
        omega) (fun i t' a h1 h2 h3 => hp (i + 1) t' a h1 h2 h3) s1
      exact ⟨μ2, e1.trans e2 fun b z => .inl z, .cons (r1.ext e2) r2, s2⟩
/-- where they were new at H -/
theorem Ext.new (e : Ext C no H μ H' μ') {μ2 : List Addr} (f : Ext C (fun a => Nw H a) H' μ' H' μ2) : Ext C no H μ H' μ2 := e.trans f fun _ z => .inr z
end
/-! ### arguments -/
def argsM : List M → MA
  | [] => fun _ S => .ok [] S
  | m :: ms => bind m fun t => bind (argsM ms) fun ts _ S => .ok (t :: ts) S
section
variable {C : Cn} {W : XK} {X : Cx} {e : Expr} {es : List Expr} {m : M} {ms : List M} {b : Bool} {pos : Pos}
theorem da_nil : DA X C W [] (argsM []) := impA pa_nil fun σ H Q q => by
  obtain ⟨ρ, μ, S, R, p⟩ := q
  exact p [] H μ Ext.refl ⟨.nil, .nil, fun i j t u a h => by simp at h⟩ R.sr
theorem da_cons (h : DE X C W false e m) (hr : DA X C W es (argsM ms)) (hs : starEach (e :: es) X.env = (false, eval e X.env) :: starEach es X.env) : DA X C W (e :: es) (argsM (m :: ms)) := impA (pa_cons h hr hs) fun σ H Q q => by
  obtain ⟨ρ, μ, S, R, p⟩ := q
  refine ⟨ρ, μ, S, R, ?_⟩
  have p : PostA C W H μ Q ((bind m fun t => bind (argsM ms) fun ts _ S => .ok (t :: ts) S) ρ S) := p
  unfold bind at p
  cases e1 : m ρ S with
  | ok t S1 =>
    rw [e1] at p
    dsimp only at p
    intro v H1 μ1 x1 rt f s
    refine ⟨ρ, μ1, S1, R.ext x1 s, ?_⟩
    cases e2 : argsM ms ρ S1 with
    | ok ts S2 =>
      rw [e2] at p
      intro vs H2 μ2 x2 A s2
      refine p (v :: vs) H2 μ2 (x1.then0 x2) ⟨.cons (rt.ext0 x2) A.rt, .cons (f rfl) (Paired.mapP A.fr fun _ _ g => g.ext x1), ?_⟩ s2
      -- the first one was there as the others were made
      have lie : ∀ (j : Nat) (u : T) (a : Addr), ts[j]? = some u → u.own = true → vs[j]? = some (V.ref a) → t.own = true → v ≠ .ref a := by
        intro j u a hu ho hv ht z
        have fr : Fresh H1 (V.ref a) u := by
          have all : ∀ {ws : List V} {us : List T} {F : V → T → Prop} (j : Nat) (w : V) (u : T), Paired F ws us → ws[j]? = some w → us[j]? = some u → F w u := by
            intro ws us F j w u h
            induction h generalizing j with
            | nil => intro h; simp at h
            | cons r t ih =>
              cases j with
              | zero => intro h1 h2; simp at h1 h2; subst h1; subst h2; exact r
              | succ j => intro h1 h2; exact ih j (by simpa using h1) (by simpa using h2)
          exact all j _ _ A.fr hv hu
        obtain ⟨a', ea, en⟩ := fr ho
        cases ea
        subst z
        cases t with
        | im d => cases ht
        | vl ds =>
          obtain ⟨a2, ws, q1, q2, _⟩ := rt
          cases q1
          exact Bool.noConfusion (en _ q2)
        | vd ds =>
          obtain ⟨a2, ws, q1, q2, _⟩ := rt
          cases q1
          exact Bool.noConfusion (en _ q2)
      intro i j t' u a h1 h2 h3 h4 h5 h6
      cases i with
      | zero =>
        cases j with
        | zero => rfl
        | succ j =>
          simp at h1 h5
          subst h1
          exact absurd h5 (lie j u a (by simpa using h3) h4 (by simpa using h6) h2)
      | succ i =>
        cases j with
        | zero =>
          simp at h3 h6
          subst h3
          exact absurd h6 (lie i t' a (by simpa using h1) h2 (by simpa using h5) h4)
        | succ j => rw [A.apart i j t' u a (by simpa using h1) h2 (by simpa using h3) h4 (by simpa using h5) (by simpa using h6)]
    | exc x S2 =>
      rw [e2] at p
      exact PostX.ext x1 p
    | stuck => rw [e2] at p; exact p
  | exc x S1 => rw [e1] at p; exact p
  | stuck => rw [e1] at p; exact p
/-- from arguments to data -/
theorem args_data {H H' : Hp} {μ μ' : List Addr} {vs : List V} {ts : List T} {S : Sto} (x : Ext C no H μ H' μ') (A : Args C H H' μ' vs ts) (s : SR C H' μ' S) :
    ∃ μ2, Ext C no H μ H' μ2 ∧ RDs C H' μ2 vs (escs ts S).1 ∧ SR C H' μ2 (escs ts S).2 := by
  obtain ⟨μ2, e, r, s2⟩ := escs_ok (P := fun a => Nw H a) A.rt A.apart (fun i t a h1 h2 h3 => by
    have all : ∀ {ws : List V} {us : List T} {F : V → T → Prop} (j : Nat) (w : V) (u : T), Paired F ws us → ws[j]? = some w → us[j]? = some u → F w u := by
      intro ws us F j w u h
      induction h generalizing j with
      | nil => intro h; simp at h
      | cons r t ih =>
        cases j with
        | zero => intro h1 h2; simp at h1 h2; subst h1; subst h2; exact r
        | succ j => intro h1 h2; exact ih j (by simpa using h1) (by simpa using h2)
    obtain ⟨a', ea, en⟩ := all i _ _ A.fr h3 h1 h2
    cases ea
    exact en) s
  exact ⟨μ2, x.new e, r, s2⟩
/-- the first part: arguments -/
theorem readA {m : MA} {H : Hp} {μ : List Addr} {σ : St} {ρ : Ev} {S : Sto} {Q : VK} {Q' : List V → Hp → Prop} (R : Rel C H μ σ ρ S) {k : List T → M} (p : PostE C W b H μ Q (bind m k ρ S))
    (hk : ∀ ts S1 vs H1 μ1, Ext C no H μ H1 μ1 → Args C H H1 μ1 vs ts → Rel C H1 μ1 σ ρ S1 → PostE C W b H μ Q (k ts ρ S1) → PostE C W b H1 μ1 Q (k ts ρ S1) → Q' vs H1) : tDA C W m σ H Q' := by
  refine ⟨ρ, μ, S, R, ?_⟩
  unfold bind at p
  cases e : m ρ S with
  | ok t S1 => rw [e] at p; exact fun vs H1 μ1 e1 A s => hk t S1 vs H1 μ1 e1 A (R.ext e1 s) p (PostE.ext e1 p)
  | exc x S1 => rw [e] at p; exact p
  | stuck => rw [e] at p; exact p
def tupM (m : MA) : M := bind m fun ts _ S => if ts.length ≤ line then .ok (.im (.tup (escs ts S).1)) (escs ts S).2 else .stuck
def lstM (m : MA) : M := bind m fun ts _ S => if ts.length ≤ line then .ok (.vl (escs ts S).1) (escs ts S).2 else .stuck
theorem de_tup {m : MA} {k : Nat} (h : DA X C W es m) : DE X C W b (.Tuple es k pos) (tupM m) := impE (pe_tup h) fun σ H Q q => by
  obtain ⟨ρ, μ, S, R, p⟩ := q
  refine readA R p fun ts S1 vs H1 μ1 e1 A R1 p1 _ => ?_
  split at p1
  · rename_i hz
    obtain ⟨μ2, e2, r2, s2⟩ := args_data e1 A R1.sr
    refine ⟨by rw [r2.length, escs_len, line_eq]; exact hz, fun a ha => ?_⟩
    have p2 := PostE.ext e2 p1
    exact end_tup s2 ha r2 (by rw [escs_len]; exact hz) p2
  · exact p1.elim
theorem de_lst {m : MA} (h : DA X C W es m) : DE X C W b (.List es pos) (lstM m) := impE (pe_lst h) fun σ H Q q => by
  obtain ⟨ρ, μ, S, R, p⟩ := q
  refine readA R p fun ts S1 vs H1 μ1 e1 A R1 p1 _ => ?_
  split at p1
  · rename_i hz
    obtain ⟨μ2, e2, r2, s2⟩ := args_data e1 A R1.sr
    refine ⟨by rw [r2.length, escs_len, line_eq]; exact hz, fun a ha => ?_⟩
    have p2 := PostE.ext e2 p1
    exact end_vl s2 ha r2 (by rw [escs_len]; exact hz) p2
  · exact p1.elim
/-- a new value comes to the store -/
def escM (m : M) : M := bind m fun t _ S => .ok (.im (esc t S).1) (esc t S).2
theorem esc_new {H H' : Hp} {μ μ' : List Addr} {v : V} {t : T} {S : Sto} (x : Ext C no H μ H' μ') (r : RT C H' μ' v t) (f : Fresh H v t) (s : SR C H' μ' S) :
    ∃ μ2, Ext C no H μ H' μ2 ∧ RD C H' μ2 v (esc t S).1 ∧ SR C H' μ2 (esc t S).2 := by
  obtain ⟨μ2, e, r2, s2, _⟩ := esc_ok (P := fun a => Nw H a) r s fun o a ea => by
    obtain ⟨a', e1, e2⟩ := f o
    rw [ea] at e1; cases e1
    exact e2
  exact ⟨μ2, x.new e, r2, s2⟩
theorem de_esc (h : DE X C W false e m) : DE X C W b e (escM m) := impE h fun σ H Q q => by
  obtain ⟨ρ, μ, S, R, p⟩ := q
  refine ⟨ρ, μ, S, R, ?_⟩
  have p : PostE C W b H μ Q (bind m (fun t _ S => .ok (.im (esc t S).1) (esc t S).2) ρ S) := p
  unfold bind at p
  cases e1 : m ρ S with
  | ok t S1 =>
    rw [e1] at p
    intro v H1 μ1 x1 rt f s
    obtain ⟨μ2, x2, r2, s2⟩ := esc_new x1 rt (f rfl) s
    exact p v H1 μ2 x2 r2 (fun _ z => Bool.noConfusion z) s2
  | exc x S1 => rw [e1] at p; exact p
  | stuck => rw [e1] at p; exact p
/-- what is new may be asked where anything may be -/
theorem de_weak (h : DE X C W false e m) : DE X C W true e m := impE h fun σ H Q q => by
  obtain ⟨ρ, μ, S, R, p⟩ := q
  refine ⟨ρ, μ, S, R, ?_⟩
  cases e1 : m ρ S with
  | ok t S1 => rw [e1] at p; exact fun v H1 μ1 x1 rt f s => p v H1 μ1 x1 rt (fun z => Bool.noConfusion z) s
  | exc x S1 => rw [e1] at p; exact p
  | stuck => rw [e1] at p; exact p
end
end DL

/-! The data layer: in, items, slices, built-ins by values. -/
namespace DL
open PySem PySem.Spec L2

/-! ### the module's dicts with text keys -/
def kdGet (ks : List Str) (ds : List D) (z : Str) : Option D := (ks.zip ds).lookup z
section
variable {C : Cn} {W : XK} {H H' : Hp} {μ μ' : List Addr} {S S' : Sto} {Q : VK} {b : Bool}
theorem zip_look : ∀ {ks : List Str} {vs : List V} {ds : List D} {z : Str}, RDs C H μ vs ds → (∀ d, (ks.zip ds).lookup z = some d → ∃ v, (ks.zip vs).lookup z = some v ∧ RD C H μ v d) ∧ ((ks.zip ds).lookup z = none → (ks.zip vs).lookup z = none)
  | [], _, _, z, _ => ⟨fun d e => (by cases e), fun _ => rfl⟩
  | k :: ks, _, _, z, .nil => ⟨fun d e => (by cases e), fun _ => rfl⟩
  | k :: ks, _, _, z, .cons (v := v) (vs := vs) (d := d) (ds := ds) r t => by
    obtain ⟨h1, h2⟩ := zip_look (ks := ks) (z := z) t
    rw [List.zip_cons_cons, List.zip_cons_cons, List.lookup_cons, List.lookup_cons]
    cases z == k with
    | true => exact ⟨fun d e => (by cases e; exact ⟨_, rfl, r⟩), fun e => (by cases e)⟩
    | false => exact ⟨h1, h2⟩
/-! ### in -/
def inV (S : Sto) (x y : T) : Option Bool := match y with
  | .im (.str j) => (match x with
    | .im (.str i) => some (!(Builtin.Str.occurrences j i 0 j.length 1).isEmpty)
    | _ => none)
  | .im (.kd ks ds) => (match x with
    | .im (.str z) => some (kdGet ks ds z).isSome
    | _ => none)
  | y => (match dicOf S y with
    | some kvs => (keyD x).map fun k => (getK kvs k).isSome
    | none => (match pyT S x, pyT S y with
      | some d, some (.list ys) => if d.canLay0 && (PyData.canLayAll0 ys && decide (min (PyData.depthAll ys) d.depth ≤ 64)) then some (ys.any fun y => PyData.eqv y d) else none
      | some d, some (.tuple ys) => if d.canLay0 && (PyData.canLayAll0 ys && decide (min (PyData.depthAll ys) d.depth ≤ 64)) then some (ys.any fun y => PyData.eqv y d) else none
      | _, _ => none))
def inO : O2 := fun x y S => match inV S x y with
  | some r => .ok (.im (.bl r)) S
  | none => .stuck
def ninO : O2 := fun x y S => match inV S x y with
  | some r => .ok (.im (.bl !r)) S
  | none => .stuck
/-- what a rule for in asks; neg: for not in -/
def rInM (K : PySem.W.Frag) (w : World) (neg : Bool) : R2 := fun x y H Q => ∃ r : Bool, Q (.bl (if neg then !r else r)) H ∧
  ((∃ i j, x = .str i ∧ y = .str j ∧ r = !(Builtin.Str.occurrences j i 0 j.length 1).isEmpty) ∨
   (∃ z a es n u, x = .str z ∧ y = .ref a ∧ KDict K w a es n ∧ PySem.W.nsIn K a z = some u ∧ r = u.isSome) ∨
   (∃ a o, y = .ref a ∧ DGet H a x o ∧ r = o.isSome) ∨
   (∃ d ys, Dp K H x d ∧ (Dp K H y (.list ys) ∨ Dp K H y (.tuple ys)) ∧ d.canLay0 = true ∧ PyData.canLayAll0 ys = true ∧ min (PyData.depthAll ys) d.depth ≤ 64 ∧ r = ys.any fun y => PyData.eqv y d))
theorem op_inM {X : Cx} (hu : X.A.units + 66 < cLine) : OpR X (compareOp .In) (rInM X.K X.w false) := by
  intro pins s σ H x y v u Q I rx ry h
  obtain ⟨r, q, h⟩ := h
  have q : Q (.bl r) H := q
  rcases h with ⟨i, j, rfl, rfl, rfl⟩ | ⟨z, a, es, n, u0, rfl, rfl, D, e, rfl⟩ | ⟨a, o, rfl, g, rfl⟩ | ⟨d, ys, hd, he, c1, c2, hm, rfl⟩
  · exact op_in_str pins s σ H _ _ v u Q I rx ry ⟨i, j, rfl, rfl, q⟩
  · exact op_in_kd D pins s σ H _ _ v u Q I rx ry ⟨z, u0, rfl, rfl, e, q⟩
  · obtain rfl : u = Value.ref a := ry
    exact d_in (by omega) I g rx fun s3 I3 => ⟨.bl o.isSome, H, I3, rfl, q⟩
  · obtain ⟨as, r1⟩ := Dp.reads I d x v hd rx
    rcases he with he | he
    · obtain ⟨bs, r2⟩ := Dp.reads I _ y u he ry
      exact SeqAt.in_list_reads r2 r1 c2 c1 (by omega) ⟨.bl _, H, I, rfl, q⟩
    · obtain ⟨bs, r2⟩ := Dp.reads I _ y u he ry
      exact SeqAt.in_tuple_reads r2 r1 c2 c1 (by omega) ⟨.bl _, H, I, rfl, q⟩
theorem op_notInM {X : Cx} (hu : X.A.units + 66 < cLine) : OpR X (compareOp .NotIn) (rInM X.K X.w true) := by
  intro pins s σ H x y v u Q I rx ry h
  obtain ⟨r, q, h⟩ := h
  have q : Q (.bl (!r)) H := q
  rcases h with ⟨i, j, rfl, rfl, rfl⟩ | ⟨z, a, es, n, u0, rfl, rfl, D, e, rfl⟩ | ⟨a, o, rfl, g, rfl⟩ | ⟨d, ys, hd, he, c1, c2, hm, rfl⟩
  · exact op_notin_str pins s σ H _ _ v u Q I rx ry ⟨i, j, rfl, rfl, q⟩
  · exact op_notIn_kd D pins s σ H _ _ v u Q I rx ry ⟨z, u0, rfl, rfl, e, q⟩
  · obtain rfl : u = Value.ref a := ry
    exact d_notIn (by omega) I g rx fun s3 I3 => ⟨.bl (!o.isSome), H, I3, rfl, q⟩
  · obtain ⟨as, r1⟩ := Dp.reads I d x v hd rx
    rcases he with he | he
    · obtain ⟨bs, r2⟩ := Dp.reads I _ y u he ry
      exact SeqAt.notIn_list_reads r2 r1 c2 c1 (by omega) ⟨.bl _, H, I, rfl, q⟩
    · obtain ⟨bs, r2⟩ := Dp.reads I _ y u he ry
      exact SeqAt.notIn_tuple_reads r2 r1 c2 c1 (by omega) ⟨.bl _, H, I, rfl, q⟩
theorem kd_get {v : V} {ks : List Str} {ds : List D} (r : RD C H μ v (.kd ks ds)) (z : Str) : ∃ a es n u, v = .ref a ∧ KDict C.K C.w a es n ∧ PySem.W.nsIn C.K a z = some u ∧ u.isSome = (kdGet ks ds z).isSome ∧
    ∀ d, kdGet ks ds z = some d → ∃ u0 w, u = some u0 ∧ RelV w u0 ∧ RD C H μ w d := by
  cases r with
  | @kd a ks vs ds es n h f t hl =>
    obtain ⟨u, e, ro⟩ := f z
    obtain ⟨h1, h2⟩ := zip_look (ks := ks) (z := z) t
    refine ⟨a, es, n, u, rfl, h, e, ?_, fun d hd => ?_⟩
    · unfold kdGet
      cases q : (ks.zip ds).lookup z with
      | none =>
        rw [h2 q] at ro
        cases u with
        | none => rfl
        | some _ => exact ro.elim
      | some d =>
        obtain ⟨w, e2, _⟩ := h1 d q
        rw [e2] at ro
        cases u with
        | none => exact ro.elim
        | some _ => rfl
    · obtain ⟨w, e2, rw'⟩ := h1 d hd
      rw [e2] at ro
      cases u with
      | none => exact ro.elim
      | some u0 => exact ⟨u0, w, rfl, ro, rw'⟩
theorem inV_ok {neg : Bool} {x y : T} {v u : V} {r : Bool} (s : SR C H μ S) (r1 : RT C H μ v x) (r2 : RT C H μ u y) (e : inV S x y = some r) (q : Q (.bl (if neg then !r else r)) H) : rInM C.K C.w neg v u H Q := by
  refine ⟨r, q, ?_⟩
  unfold inV at e
  split at e
  · split at e
    · cases e; cases r1; cases r2
      exact .inl ⟨_, _, rfl, rfl, rfl⟩
    · cases e
  · split at e
    · rename_i ks ds _ z
      cases e; cases r1
      obtain ⟨a, es, n, w, rfl, h, e1, e2, _⟩ := kd_get r2 z
      exact .inr (.inl ⟨z, a, es, n, w, rfl, rfl, h, e1, e2.symm⟩)
    · cases e
  · split at e
    · rename_i kvs ed
      obtain ⟨a, ps, rfl, h1, k1, _⟩ := dicOf_ok s r2 ed
      cases ek : keyD x with
      | none => rw [ek] at e; cases e
      | some k =>
        rw [ek] at e
        cases e
        rw [keyD_ok r1 ek]
        refine .inr (.inr (.inl ⟨a, valV ps k, rfl, .inl ⟨ps, k, h1, rfl, rfl⟩, ?_⟩))
        obtain ⟨g1, g2⟩ := KD.get k k1
        cases q : getK kvs k with
        | none => dsimp only; rw [q, g2 q]; rfl
        | some d => obtain ⟨w, e3, _⟩ := g1 d q; dsimp only; rw [q, e3]; rfl
    · split at e
      · rename_i d ys e1 e2
        split at e
        · rename_i hc
          simp only [Bool.and_eq_true, decide_eq_true_eq] at hc
          cases e
          exact .inr (.inr (.inr ⟨d, ys, pyT_ok s r1 e1, .inl (pyT_ok s r2 e2), hc.1, hc.2.1, hc.2.2, rfl⟩))
        · cases e
      · rename_i d ys e1 e2
        split at e
        · rename_i hc
          simp only [Bool.and_eq_true, decide_eq_true_eq] at hc
          cases e
          exact .inr (.inr (.inr ⟨d, ys, pyT_ok s r1 e1, .inr (pyT_ok s r2 e2), hc.1, hc.2.1, hc.2.2, rfl⟩))
        · cases e
      · cases e
theorem inO_ok : Op2 C W b inO (rInM C.K C.w false) := by
  intro H μ S v u t t' Q s r1 r2 p
  unfold inO at p
  split at p
  · rename_i r e; exact inV_ok (neg := false) s r1 r2 e (end_im s (.bl _) p)
  · exact p.elim
theorem ninO_ok : Op2 C W b ninO (rInM C.K C.w true) := by
  intro H μ S v u t t' Q s r1 r2 p
  unfold ninO at p
  split at p
  · rename_i r e; exact inV_ok (neg := true) s r1 r2 e (end_im s (.bl _) p)
  · exact p.elim

/-! ### a[i] -/
def ixO : O2 := fun x y S => match x with
  | .im (.str z) => (match y with
    | .im (.int i) => (if z.length ≤ line then (match atI z.cps.toList i with
      | some c => .ok (.im (.str ⟨#[c]⟩)) S
      | none => .stuck) else .stuck)
    | _ => .stuck)
  | .im (.kd ks ds) => (match y with
    | .im (.str z) => (match kdGet ks ds z with
      | some d => .ok (.im d) S
      | none => .stuck)
    | _ => .stuck)
  | x => (match seqOf S x with
    | some ds => (match y with
      | .im (.int i) => (match atI ds i with
        | some d => .ok (.im d) S
        | none => .stuck)
      | _ => .stuck)
    | none => (match dicOf S x with
      | some kvs => (match keyD y with
        | some k => (match getK kvs k with
          | some d => .ok (.im d) S
          | none => .stuck)
        | none => .stuck)
      | none => .stuck))
def rIxDk : R2 := fun x y H Q => ∃ a v, x = .ref a ∧ DGet H a y (some v) ∧ Q v H
theorem ix_dk {X : Cx} (hu : X.A.units + 66 < cLine) : IxR X rIxDk := by
  intro value slice pins s σ H x y v u Q I rx ry h hs
  obtain ⟨a, w, rfl, g, q⟩ := h
  obtain rfl : v = Value.ref a := rx
  exact PyProof.Rows.tail_any (dict_typeIs I g) PySem.F.slot_dict_getitem.lookup (d_getItem (by omega) I g ry fun w' s3 I3 rw' => ⟨w, H, I3, rw', q⟩) hs
def rIxM (K : PySem.W.Frag) (w : World) : R2 := fun x y H Q => rIx K x y H Q ∨ rIxDk x y H Q ∨ rIxD K w x y H Q
theorem ix_M {X : Cx} (hu : X.A.units + 66 < cLine) : IxR X (rIxM X.K X.w) := ix_seq.or ((ix_dk hu).or ix_kdict)
theorem atI_get {vs : List V} {ds : List D} {i : Int} {d : D} (r : RDs C H μ vs ds) (e : atI ds i = some d) : ∃ v, atI vs i = some v ∧ RD C H μ v d := by
  unfold atI at e ⊢
  rw [r.length]
  cases q : ixN ds.length i with
  | none => rw [q] at e; cases e
  | some j =>
    rw [q] at e
    exact r.get e
theorem ixO_ok : Op2 C W b ixO (rIxM C.K C.w) := by
  intro H μ S v u t t' Q s r1 r2 p
  unfold ixO at p
  split at p
  · split at p
    · split at p
      · split at p
        · rename_i hz _ c e
          cases r1; cases r2
          exact .inl (.inr (.inr ⟨_, _, c, rfl, rfl, by rw [line_eq]; exact hz, e, end_im s (.str _) p⟩))
        · exact p.elim
      · exact p.elim
    · exact p.elim
  · split at p
    · split at p
      · rename_i ks ds _ z _ d e
        cases r2
        obtain ⟨a, es, n, w, rfl, h, e1, e2, g⟩ := kd_get r1 z
        obtain ⟨u0, x, rfl, rx, rd⟩ := g d e
        exact .inr (.inr ⟨a, z, x, rfl, rfl, ⟨es, n, u0, h.at_, h.lit, e1, rx⟩, end_im s rd p⟩)
      · exact p.elim
    · exact p.elim
  · split at p
    · rename_i ds e
      obtain ⟨a, vs, rfl, h, r, _⟩ := seqOf_ok s r1 e
      split at p
      · split at p
        · rename_i i _ d e2
          cases r2
          obtain ⟨w, e3, rd⟩ := atI_get r e2
          rcases h with h | h
          · exact .inl (.inl ⟨a, vs, i, w, rfl, rfl, h, e3, end_im s rd p⟩)
          · exact .inl (.inr (.inl ⟨a, vs, i, w, rfl, rfl, h, e3, end_im s rd p⟩))
        · exact p.elim
      · exact p.elim
    · split at p
      · rename_i kvs e
        obtain ⟨a, ps, rfl, h, k1, _⟩ := dicOf_ok s r1 e
        split at p
        · rename_i k ek
          split at p
          · rename_i d e2
            rw [keyD_ok r2 ek]
            obtain ⟨w, e3, rd⟩ := (KD.get k k1).1 d e2
            exact .inr (.inl ⟨a, w, rfl, .inl ⟨ps, k, h, rfl, e3.symm⟩, end_im s rd p⟩)
          · exact p.elim
        · exact p.elim
      · exact p.elim
theorem de_ix {X : Cx} {a c : Expr} {pos : Pos} {b1 b2 : Bool} {m n : M} (hK : X.K = C.K) (hw : X.w = C.w) (hu : X.A.units + 66 < cLine) (ha : DE X C W b1 a m) (hc : DE X C W b2 c n) (hs : PlainIx c) : DE X C W b (.Subscript a c pos) (bin m n ixO) :=
  impE (pe_ix (ix_M hu) ha hc hs) fun _ _ _ q => by rw [hK, hw]; exact rd_bin ixO_ok q

/-! ### a[i:j] -/
def cutD (ds : List D) (lo hi : Option Int) : List D := (ds.drop (HT.sIx ds.length 0 lo)).take (HT.sIx ds.length ds.length hi - HT.sIx ds.length 0 lo)
theorem cut_ok {vs : List V} {ds : List D} (r : RDs C H μ vs ds) (lo hi : Option Int) : RDs C H μ (cutV vs lo hi) (cutD ds lo hi) := by
  unfold cutV cutD
  rw [r.length]
  exact (r.drop _).take _
theorem cutD_len (ds : List D) (lo hi : Option Int) : (cutD ds lo hi).length ≤ ds.length := by
  unfold cutD
  rw [List.length_take, List.length_drop]
  omega
theorem cutV_whole {vs : List V} {lo hi : Option Int} (h : HT.sIx vs.length 0 lo = 0 ∧ HT.sIx vs.length vs.length hi = vs.length) : cutV vs lo hi = vs := by
  unfold cutV
  rw [h.1, h.2]
  simp
theorem cutD_whole {vs : List D} {lo hi : Option Int} (h : HT.sIx vs.length 0 lo = 0 ∧ HT.sIx vs.length vs.length hi = vs.length) : cutD vs lo hi = vs := by
  unfold cutD
  rw [h.1, h.2]
  simp
/-- a bound: left out, or an int -/
inductive Bd where
  | no | at_ (m : M)
def bdM (d : Bd) (k : Option Int → M) : M := match d with
  | .no => k none
  | .at_ m => bind m fun t => match t with
    | .im (.int i) => k (some i)
    | _ => fun _ _ => .stuck
def slO (x : T) (lo hi : Option Int) : M := fun _ S => match x with
  | .im (.tup ds) => .ok (.im (.tup (cutD ds lo hi))) S
  | x => (match lstOf S x with
    | some ds => .ok (.vl (cutD ds lo hi)) S
    | none => .stuck)
def sliceM (m : M) (lo hi : Bd) : M := bind m fun t => bdM lo fun l => bdM hi fun h => slO t l h
def rSlM (K : PySem.W.Frag) : V → Option Int → Option Int → Hp → VK → Prop := fun x lo hi H Q => rSlA K x lo hi H Q ∨ rSlL K x lo hi H Q
theorem sl_M {X : Cx} : SlR X (rSlM X.K) := sl_tupA.or sl_list
inductive DB (X : Cx) (C : Cn) (W : XK) : Option Expr → Bd → Prop where
  | no : DB X C W none .no
  | at_ {e : Expr} {m : M} (h : DE X C W true e m) : DB X C W (some e) (.at_ m)
theorem slO_ok {v : V} {t : T} {lo hi : Option Int} {ρ : Ev} (s : SR C H μ S) (r : RT C H μ v t) (p : PostE C W b H μ Q (slO t lo hi ρ S)) : rSlM C.K v lo hi H Q := by
  unfold slO at p
  split at p
  · rename_i ds
    cases r with
    | @tup a vs ds h r1 z =>
      refine .inl ⟨a, vs, rfl, h, fun hw => ?_, fun hw x hx => ?_⟩
      · rw [cutD_whole (by rw [← r1.length]; exact hw)] at p
        exact end_im s (.tup h r1 z) p
      · exact end_tup s hx (cut_ok r1 lo hi) (Nat.le_trans (cutD_len _ _ _) z) p
  · split at p
    · rename_i ds e
      obtain ⟨a, vs, rfl, h, r1, z⟩ := lstOf_ok s r e
      exact .inr ⟨a, vs, rfl, h, fun x hx => end_vl s hx (cut_ok r1 lo hi) (Nat.le_trans (cutD_len _ _ _) z) p⟩
    · exact p.elim
/-- a bound is read, then what follows -/
theorem bd_read {X : Cx} {e : Option Expr} {d : Bd} {σ : St} {ρ : Ev} {k : Option Int → M} (h : DB X C W e d) (R : Rel C H μ σ ρ S) (p : PostE C W b H μ Q (bdM d k ρ S)) {t : TO} (ht : (e = none → t = tNoPart) ∧ ∀ e' m, e = some e' → d = .at_ m → t = tPart (tD C W true m)) {Q' : Option Int → Hp → Prop}
    (hk : ∀ o S1 H1 μ1, Ext C no H μ H1 μ1 → Rel C H1 μ1 σ ρ S1 → PostE C W b H μ Q (k o ρ S1) → Q' o H1) : t σ H Q' := by
  cases h with
  | no => rw [ht.1 rfl]; exact hk none S H μ Ext.refl R p
  | @at_ e' m h =>
    rw [ht.2 e' m rfl rfl]
    have p : PostE C W b H μ Q (bind m _ ρ S) := p
    refine read1 R p fun u S1 v H1 μ1 e1 rt f R1 p1 p0 => ?_
    split at p1
    · rename_i i
      cases rt
      exact ⟨i, rfl, hk (some i) S1 H1 μ1 e1 R1 p0⟩
    · exact p1.elim
theorem po_db {X : Cx} {e : Option Expr} {d : Bd} (h : DB X C W e d) : ∃ t : TO, PO X e t ∧ (e = none → t = tNoPart) ∧ ∀ e' m, e = some e' → d = .at_ m → t = tPart (tD C W true m) := by
  cases h with
  | no => exact ⟨tNoPart, po_none, fun _ => rfl, fun _ _ z => (by cases z)⟩
  | at_ h => exact ⟨_, po_some h, fun z => (by cases z), fun e' m z1 z2 => (by cases z1; cases z2; rfl)⟩
theorem de_slice {X : Cx} {a : Expr} {lo hi : Option Expr} {pos p2 : Pos} {b1 : Bool} {m : M} {l h : Bd} (hK : X.K = C.K) (ha : DE X C W b1 a m) (hl : DB X C W lo l) (hh : DB X C W hi h) : DE X C W b (.Subscript a (.Slice lo hi none p2) pos) (sliceM m l h) := by
  obtain ⟨tl, pl, ql⟩ := po_db hl
  obtain ⟨th, ph, qh⟩ := po_db hh
  refine impE (pe_slice sl_M ha pl ph) fun σ H Q q => ?_
  obtain ⟨ρ, μ, S, R, p⟩ := q
  refine read1 R p fun t S1 v H1 μ1 e1 rt f R1 p1 _ => ?_
  refine bd_read hl R1 p1 ql fun o S2 H2 μ2 e2 R2 p2 => ?_
  refine bd_read hh R2 (PostE.ext e2 p2) qh fun o' S3 H3 μ3 e3 R3 p3 => ?_
  rw [hK]
  exact slO_ok R3.sr ((rt.ext0 e2).ext0 e3) (PostE.ext e3 p3)
end
end DL

/-! The data layer: calls of built-ins. -/
namespace DL
open PySem PySem.Spec L2

def PostB (C : Cn) (W : XK) (H : Hp) (μ : List Addr) (Q : List V → Hp → Prop) : Res (List T) → Prop
  | .ok ts S' => ∀ vs H' μ', Ext C no H μ H' μ' → Paired (RT C H' μ') vs ts → SR C H' μ' S' → Q vs H'
  | .exc e S' => PostX C W no H μ e S'
  | .stuck => False
def tDB (C : Cn) (W : XK) (m : MA) : TA := fun σ H Q => ∃ ρ μ S, Rel C H μ σ ρ S ∧ PostB C W H μ Q (m ρ S)
abbrev DBs (X : Cx) (C : Cn) (W : XK) (es : List Expr) (m : MA) : Prop := PA X es (tDB C W m)
abbrev OA := List T → Sto → Res T
def OpA (C : Cn) (W : XK) (b : Bool) (f : OA) (r : List V → Hp → VK → Prop) : Prop := ∀ H μ S vs ts Q, SR C H μ S → Paired (RT C H μ) vs ts → PostE C W b H μ Q (f ts S) → r vs H Q
def appA (m : MA) (f : OA) : M := bind m fun ts _ S => f ts S
section
variable {C : Cn} {W : XK} {X : Cx} {e : Expr} {es : List Expr} {m : M} {ms : List M} {b : Bool} {pos p : Pos} {x : Str} {id T' : String} {r r' : List V → Hp → VK → Prop}
theorem db_nil : DBs X C W [] (argsM []) := impA pa_nil fun σ H Q q => by
  obtain ⟨ρ, μ, S, R, p⟩ := q
  exact p [] H μ Ext.refl .nil R.sr
theorem db_cons {b1 : Bool} (h : DE X C W b1 e m) (hr : DBs X C W es (argsM ms)) (hs : starEach (e :: es) X.env = (false, eval e X.env) :: starEach es X.env) : DBs X C W (e :: es) (argsM (m :: ms)) := impA (pa_cons h hr hs) fun σ H Q q => by
  obtain ⟨ρ, μ, S, R, p⟩ := q
  refine ⟨ρ, μ, S, R, ?_⟩
  have p : PostB C W H μ Q ((bind m fun t => bind (argsM ms) fun ts _ S => .ok (t :: ts) S) ρ S) := p
  unfold bind at p
  cases e1 : m ρ S with
  | ok t S1 =>
    rw [e1] at p
    dsimp only at p
    intro v H1 μ1 x1 rt f s
    refine ⟨ρ, μ1, S1, R.ext x1 s, ?_⟩
    cases e2 : argsM ms ρ S1 with
    | ok ts S2 =>
      rw [e2] at p
      intro vs H2 μ2 x2 A s2
      exact p (v :: vs) H2 μ2 (x1.then0 x2) (.cons (rt.ext0 x2) A) s2
    | exc x S2 =>
      rw [e2] at p
      exact PostX.ext x1 p
    | stuck => rw [e2] at p; exact p
  | exc x S1 => rw [e1] at p; exact p
  | stuck => rw [e1] at p; exact p
theorem readB {m : MA} {H : Hp} {μ : List Addr} {σ : St} {ρ : Ev} {S : Sto} {Q : VK} {Q' : List V → Hp → Prop} (R : Rel C H μ σ ρ S) {k : List T → M} (p : PostE C W b H μ Q (bind m k ρ S))
    (hk : ∀ ts S1 vs H1 μ1, Ext C no H μ H1 μ1 → Paired (RT C H1 μ1) vs ts → Rel C H1 μ1 σ ρ S1 → PostE C W b H1 μ1 Q (k ts ρ S1) → Q' vs H1) : tDB C W m σ H Q' := by
  refine ⟨ρ, μ, S, R, ?_⟩
  unfold bind at p
  cases e : m ρ S with
  | ok t S1 => rw [e] at p; exact fun vs H1 μ1 e1 A s => hk t S1 vs H1 μ1 e1 A (R.ext e1 s) (PostE.ext e1 p)
  | exc x S1 => rw [e] at p; exact p
  | stuck => rw [e] at p; exact p
theorem CallR.or {f : Value} (h : CallR X f r) (h' : CallR X f r') : CallR X f (fun vs H Q => r vs H Q ∨ r' vs H Q) := by
  intro pins s σ H xs us Q I rx q
  rcases q with q | q
  · exact h pins s σ H xs us Q I rx q
  · exact h' pins s σ H xs us Q I rx q
theorem de_callB {m : MA} {f : OA} (hc : CallR X (.builtin id) r) (ho : OpA C W b f r) (hg : Gl X x) (hm : X.mg x = none) (hv : bootBuiltins x = some (.builtin id)) (ha : DBs X C W (e :: es) m) (hn : x ≠ "__name__") (hdb : (x == ("__debug__" : Str)) = false)
    (he : starEach (e :: es) X.env = (false, eval e X.env) :: starEach es X.env) (hpl : (backTo pos (starEach es X.env)).any (·.1) = false) : DE X C W b (.Call (.Name x p) (e :: es) [] pos) (appA m f) :=
  impE (pe_callB hc hg hm hv ha hn hdb he hpl) fun σ H Q q => by
    obtain ⟨ρ, μ, S, R, p⟩ := q
    exact readB R p fun ts S1 vs H1 μ1 e1 A R1 p1 => ho H1 μ1 S1 vs ts Q R1.sr A p1
theorem de_callTy {m : MA} {f : OA} (hc : CallR X (.type T') r) (ho : OpA C W b f r) (hg : Gl X x) (hm : X.mg x = none) (hv : bootBuiltins x = some (.type T')) (ha : DBs X C W (e :: es) m) (hn : x ≠ "__name__") (hdb : (x == ("__debug__" : Str)) = false)
    (he : starEach (e :: es) X.env = (false, eval e X.env) :: starEach es X.env) (hpl : (backTo pos (starEach es X.env)).any (·.1) = false) : DE X C W b (.Call (.Name x p) (e :: es) [] pos) (appA m f) :=
  impE (pe_callTy hc hg hm hv ha hn hdb he hpl) fun σ H Q q => by
    obtain ⟨ρ, μ, S, R, p⟩ := q
    exact readB R p fun ts S1 vs H1 μ1 e1 A R1 p1 => ho H1 μ1 S1 vs ts Q R1.sr A p1
end
section
variable {C : Cn} {W : XK} {H H' : Hp} {μ μ' : List Addr} {S S' : Sto} {Q : VK} {b : Bool} {v : V} {vs : List V} {ds : List D}
/-! ### lists of one kind -/
def intsOf : List D → Option (List Int)
  | [] => some []
  | .int i :: r => (intsOf r).map (i :: ·)
  | _ :: _ => none
def strsOf : List D → Option (List Str)
  | [] => some []
  | .str i :: r => (strsOf r).map (i :: ·)
  | _ :: _ => none
def boolsOf : List D → Option (List Bool)
  | [] => some []
  | .bl i :: r => (boolsOf r).map (i :: ·)
  | _ :: _ => none
theorem intsOf_ok : ∀ {ds : List D} {ns : List Int}, intsOf ds = some ns → ds = ns.map D.int
  | [], _, e => by cases e; rfl
  | d :: r, ns, e => by
    cases d with
    | int i =>
      have e : (intsOf r).map (i :: ·) = some ns := e
      cases q : intsOf r with
      | none => rw [q] at e; cases e
      | some ms => rw [q] at e; cases e; rw [List.map_cons, ← intsOf_ok q]
    | _ => cases e
theorem strsOf_ok : ∀ {ds : List D} {ns : List Str}, strsOf ds = some ns → ds = ns.map D.str
  | [], _, e => by cases e; rfl
  | d :: r, ns, e => by
    cases d with
    | str i =>
      have e : (strsOf r).map (i :: ·) = some ns := e
      cases q : strsOf r with
      | none => rw [q] at e; cases e
      | some ms => rw [q] at e; cases e; rw [List.map_cons, ← strsOf_ok q]
    | _ => cases e
theorem boolsOf_ok : ∀ {ds : List D} {ns : List Bool}, boolsOf ds = some ns → ds = ns.map D.bl
  | [], _, e => by cases e; rfl
  | d :: r, ns, e => by
    cases d with
    | bl i =>
      have e : (boolsOf r).map (i :: ·) = some ns := e
      cases q : boolsOf r with
      | none => rw [q] at e; cases e
      | some ms => rw [q] at e; cases e; rw [List.map_cons, ← boolsOf_ok q]
    | _ => cases e
theorem intsOf_map : ∀ ns : List Int, intsOf (ns.map D.int) = some ns
  | [] => rfl
  | n :: r => by show (intsOf (r.map D.int)).map (n :: ·) = _; rw [intsOf_map r]; rfl
theorem strsOf_map : ∀ ns : List Str, strsOf (ns.map D.str) = some ns
  | [] => rfl
  | n :: r => by show (strsOf (r.map D.str)).map (n :: ·) = _; rw [strsOf_map r]; rfl
theorem boolsOf_map : ∀ ns : List Bool, boolsOf (ns.map D.bl) = some ns
  | [] => rfl
  | n :: r => by show (boolsOf (r.map D.bl)).map (n :: ·) = _; rw [boolsOf_map r]; rfl
theorem RDs.toInts : ∀ {ns : List Int} {vs : List V}, RDs C H μ vs (ns.map D.int) → vs = ns.map V.int
  | [], _, .nil => rfl
  | n :: r, _, .cons h t => by cases h; rw [RDs.toInts t]; rfl
theorem RDs.toStrs : ∀ {ns : List Str} {vs : List V}, RDs C H μ vs (ns.map D.str) → vs = ns.map V.str
  | [], _, .nil => rfl
  | n :: r, _, .cons h t => by cases h; rw [RDs.toStrs t]; rfl
theorem RDs.toBools : ∀ {ns : List Bool} {vs : List V}, RDs C H μ vs (ns.map D.bl) → vs = ns.map V.bl
  | [], _, .nil => rfl
  | n :: r, _, .cons h t => by cases h; rw [RDs.toBools t]; rfl
theorem RDs.ofStrs : ∀ (ns : List Str), RDs C H μ (ns.map V.str) (ns.map D.str)
  | [] => .nil
  | n :: r => .cons (.str n) (RDs.ofStrs r)
theorem one_arg {ts : List T} {t : T} (h : Paired (RT C H μ) vs [t]) : ∃ v, vs = [v] ∧ RT C H μ v t := by
  cases h with
  | cons r t => cases t; exact ⟨_, rfl, r⟩
theorem two_args {t u : T} (h : Paired (RT C H μ) vs [t, u]) : ∃ v w, vs = [v, w] ∧ RT C H μ v t ∧ RT C H μ w u := by
  cases h with
  | cons r t =>
    cases t with
    | cons r2 t => cases t; exact ⟨_, _, rfl, r, r2⟩
/-! ### len -/
def dicW (S : Sto) : T → Option (List (Key × D))
  | .vd kvs => some kvs
  | .im (.ref n) => (match S[n]? with
    | some (.dic kvs) => some kvs
    | _ => none)
  | _ => none
theorem dicW_ok {t : T} {kvs : List (Key × D)} (s : SR C H μ S) (r : RT C H μ v t) (e : dicW S t = some kvs) : ∃ a ps, v = .ref a ∧ H a = some (.dK ps) ∧ KD C H μ ps kvs ∧ kvs.length ≤ line ∧ (kvs.map (·.1)).Nodup := by
  unfold dicW at e
  split at e
  · cases e
    obtain ⟨a, vs, e1, h, r1, _, z⟩ := r
    exact ⟨a, vs, e1, h, r1, z⟩
  · rename_i n
    split at e
    · rename_i ds' e'
      cases e
      cases r with
      | ref h =>
        have e' : S[n]? = some (MO.dic kvs) := e'
        obtain ⟨vs, h1, r1, z⟩ := s.ok _ _ _ h e'
        exact ⟨_, vs, rfl, h1, r1, z⟩
    · cases e
  · cases e
def lenF : OA := fun ts S => match ts with
  | [.im (.str z)] => if z.length ≤ line then .ok (.im (.int z.length)) S else .stuck
  | [t] => (match seqOf S t with
    | some ds => .ok (.im (.int ds.length)) S
    | none => (match dicW S t with
      | some kvs => .ok (.im (.int kvs.length)) S
      | none => .stuck))
  | _ => .stuck
def rLenM (K : PySem.W.Frag) : List V → Hp → VK → Prop := fun xs H Q => (∃ x n, xs = [x] ∧ LenV K x H n ∧ Q (.int n) H) ∨ ∃ a kvs, xs = [V.ref a] ∧ H a = some (.dK kvs) ∧ Q (.int kvs.length) H
theorem cr_lenM {X : Cx} : CallR X (.builtin "len") (rLenM X.K) := call_len.or call_lenD
theorem lenF_ok : OpA C W b lenF (rLenM C.K) := by
  intro H μ S vs ts Q s r p
  unfold lenF at p
  split at p
  · split at p
    · rename_i z hz
      obtain ⟨v, rfl, r1⟩ := one_arg (ts := []) r
      cases r1
      exact .inl ⟨_, _, rfl, ⟨by rw [line_eq]; exact hz, rfl⟩, end_int s p⟩
    · exact p.elim
  · obtain ⟨v, rfl, r1⟩ := one_arg (ts := []) r
    split at p
    · rename_i ds e
      obtain ⟨a, ws, rfl, h, r2, _⟩ := seqOf_ok s r1 e
      refine .inl ⟨_, ds.length, rfl, ?_, end_int s p⟩
      rcases h with h | h
      · exact .inl ⟨ws, h, r2.length.symm⟩
      · exact .inr ⟨ws, h, r2.length.symm⟩
    · split at p
      · rename_i kvs e
        obtain ⟨a, ps, rfl, h, k, _⟩ := dicW_ok s r1 e
        refine .inr ⟨a, ps, rfl, h, ?_⟩
        have : ps.length = kvs.length := Paired.length k
        rw [this]
        exact end_int s p
      · exact p.elim
  · exact p.elim
/-! ### abs, int -/
def absF : OA := fun ts S => match ts with
  | [.im (.int i)] => .ok (.im (.int (if i < 0 then -i else i))) S
  | _ => .stuck
theorem absF_ok : OpA C W b absF (fun xs H Q => ∃ i, xs = [.int i] ∧ Q (.int (if i < 0 then -i else i)) H) := by
  intro H μ S vs ts Q s r p
  unfold absF at p
  split at p
  · obtain ⟨v, rfl, r1⟩ := one_arg (ts := []) r
    cases r1
    exact ⟨_, rfl, end_int s p⟩
  · exact p.elim
def intF : OA := fun ts S => match ts with
  | [.im (.int i)] => .ok (.im (.int i)) S
  | [.im (.bl k)] => .ok (.im (.int (if k then 1 else 0))) S
  | _ => .stuck
theorem intF_ok : OpA C W b intF (fun xs H Q => (∃ i, xs = [.int i] ∧ Q (.int i) H) ∨ ∃ k, xs = [.bl k] ∧ Q (.int (if k then 1 else 0)) H) := by
  intro H μ S vs ts Q s r p
  unfold intF at p
  split at p
  · obtain ⟨v, rfl, r1⟩ := one_arg (ts := []) r
    cases r1
    exact .inl ⟨_, rfl, end_int s p⟩
  · obtain ⟨v, rfl, r1⟩ := one_arg (ts := []) r
    cases r1
    exact .inr ⟨_, rfl, end_int s p⟩
  · exact p.elim
def strF : OA := fun ts S => match ts with
  | [.im (.int i)] => if i.natAbs < 1000000000000 then .ok (.im (.str (toString i : String))) S else .stuck
  | _ => .stuck
theorem strF_ok : OpA C W b strF (fun xs H Q => ∃ i : Int, xs = [.int i] ∧ i.natAbs.log2 < 1920 ∧ Q (.str (toString i : String)) H) := by
  intro H μ S vs ts Q s r p
  unfold strF at p
  split at p
  · split at p
    · rename_i i hi
      obtain ⟨v, rfl, r1⟩ := one_arg (ts := []) r
      cases r1
      refine ⟨i, rfl, ?_, end_im s (.str _) p⟩
      by_cases h0 : i.natAbs = 0
      · rw [h0]; decide
      · exact Nat.lt_trans ((Nat.log2_lt h0).mpr (Nat.lt_of_lt_of_le hi (show 1000000000000 ≤ 2 ^ 40 by decide))) (by decide)
    · exact p.elim
  · exact p.elim
/-! ### all, any, sum -/
def allF : OA := fun ts S => match ts with
  | [t] => (match lstOf S t with
    | some ds => (match boolsOf ds with
      | some bs => .ok (.im (.bl (bs.all id))) S
      | none => .stuck)
    | none => .stuck)
  | _ => .stuck
theorem allF_ok : OpA C W b allF (rAll C.K) := by
  intro H μ S vs ts Q s r p
  unfold allF at p
  split at p
  · obtain ⟨v, rfl, r1⟩ := one_arg (ts := []) r
    split at p
    · rename_i ds e
      obtain ⟨a, ws, rfl, h, r2, _⟩ := lstOf_ok s r1 e
      split at p
      · rename_i bs e2
        rw [boolsOf_ok e2] at r2
        rw [r2.toBools] at h
        exact ⟨a, bs, rfl, h, end_im s (.bl _) p⟩
      · exact p.elim
    · exact p.elim
  · exact p.elim
def anyF : OA := fun ts S => match ts with
  | [t] => (match lstOf S t with
    | some ds => (match boolsOf ds with
      | some bs => .ok (.im (.bl (bs.any id))) S
      | none => .stuck)
    | none => .stuck)
  | _ => .stuck
theorem anyF_ok : OpA C W b anyF (rAny C.K) := by
  intro H μ S vs ts Q s r p
  unfold anyF at p
  split at p
  · obtain ⟨v, rfl, r1⟩ := one_arg (ts := []) r
    split at p
    · rename_i ds e
      obtain ⟨a, ws, rfl, h, r2, _⟩ := lstOf_ok s r1 e
      split at p
      · rename_i bs e2
        rw [boolsOf_ok e2] at r2
        rw [r2.toBools] at h
        exact ⟨a, bs, rfl, h, end_im s (.bl _) p⟩
      · exact p.elim
    · exact p.elim
  · exact p.elim
def sumF : OA := fun ts S => match ts with
  | [t] => (match lstOf S t with
    | some ds => (match intsOf ds with
      | some bs => .ok (.im (.int bs.sum)) S
      | none => .stuck)
    | none => .stuck)
  | _ => .stuck
theorem sumF_ok : OpA C W b sumF (rSum C.K) := by
  intro H μ S vs ts Q s r p
  unfold sumF at p
  split at p
  · obtain ⟨v, rfl, r1⟩ := one_arg (ts := []) r
    split at p
    · rename_i ds e
      obtain ⟨a, ws, rfl, h, r2, _⟩ := lstOf_ok s r1 e
      split at p
      · rename_i bs e2
        rw [intsOf_ok e2] at r2
        rw [r2.toInts] at h
        exact ⟨a, bs, rfl, h, end_int s p⟩
      · exact p.elim
    · exact p.elim
  · exact p.elim
/-! ### list, tuple -/
def keyV : Key → D
  | .inl i => .int i
  | .inr x => .str x
theorem keyV_ok (k : Key) : RD C H μ (kV k) (keyV k) := by cases k with
  | inl i => exact .int i
  | inr x => exact .str x
theorem KD.keysD {ps : List (Key × V)} {kvs : List (Key × D)} (h : KD C H μ ps kvs) : RDs C H μ (ps.map fun kv => kV kv.1) (kvs.map fun kv => keyV kv.1) := by
  induction h with
  | nil => exact .nil
  | cons r t ih =>
    rw [List.map_cons, List.map_cons, r.1]
    exact .cons (keyV_ok _) ih
def listF : OA := fun ts S => match ts with
  | [t] => (match seqOf S t with
    | some ds => .ok (.vl ds) S
    | none => (match dicOf S t with
      | some kvs => .ok (.vl (kvs.map fun kv => keyV kv.1)) S
      | none => .stuck))
  | _ => .stuck
def rListM (K : PySem.W.Frag) : List V → Hp → VK → Prop := fun xs H Q => (∃ p ys, xs = [.ref p] ∧ (SqL K H p ys ∨ SqT K H p ys) ∧ ∀ l, H l = none → Q (.ref l) (upd H l (.lst ys))) ∨
  ∃ (a : Addr) (kvs : List (Key × V)), xs = [.ref a] ∧ Rd H a (.dK kvs) ∧ ∀ p, H p = none → Q (.ref p) (upd H p (.lst (kvs.map fun kv => kV kv.1)))
theorem cr_listM {X : Cx} (hc : X.calm = true) : CallR X (.type "list") (rListM X.K) := call_list_of.or (call_listD hc)
theorem listF_ok : OpA C W b listF (rListM C.K) := by
  intro H μ S vs ts Q s r p
  unfold listF at p
  split at p
  · obtain ⟨v, rfl, r1⟩ := one_arg (ts := []) r
    split at p
    · rename_i ds e
      obtain ⟨a, ws, rfl, h, r2, z⟩ := seqOf_ok s r1 e
      exact .inl ⟨a, ws, rfl, h, fun l hl => end_vl s hl r2 z p⟩
    · split at p
      · rename_i kvs e
        obtain ⟨a, ps, rfl, h, k, z, _⟩ := dicOf_ok s r1 e
        exact .inr ⟨a, ps, rfl, h, fun l hl => end_vl s hl k.keysD (by rw [List.length_map]; exact z) p⟩
      · exact p.elim
  · exact p.elim
def tupleF : OA := fun ts S => match ts with
  | [.im (.tup ds)] => .ok (.im (.tup ds)) S
  | [t] => (match lstOf S t with
    | some ds => .ok (.im (.tup ds)) S
    | none => .stuck)
  | _ => .stuck
theorem tupleF_ok : OpA C W b tupleF (fun xs H Q => ∃ p ys, xs = [.ref p] ∧ ((SqL C.K H p ys ∧ ∀ l, H l = none → Q (.ref l) (upd H l (.tup ys))) ∨ (SqT C.K H p ys ∧ Q (.ref p) H))) := by
  intro H μ S vs ts Q s r p
  unfold tupleF at p
  split at p
  · obtain ⟨v, rfl, r1⟩ := one_arg (ts := []) r
    cases r1 with
    | @tup a ws ds h r2 z => exact ⟨a, ws, rfl, .inr ⟨h, end_im s (.tup h r2 z) p⟩⟩
  · obtain ⟨v, rfl, r1⟩ := one_arg (ts := []) r
    split at p
    · rename_i ds e
      obtain ⟨a, ws, rfl, h, r2, z⟩ := lstOf_ok s r1 e
      exact ⟨a, ws, rfl, .inl ⟨h, fun l hl => end_tup s hl r2 z p⟩⟩
    · exact p.elim
  · exact p.elim
/-! ### sorted -/
def insI (x : Int) : List Int → List Int
  | [] => [x]
  | y :: ys => if x ≤ y then x :: y :: ys else y :: insI x ys
def sortI : List Int → List Int
  | [] => []
  | x :: xs => insI x (sortI xs)
theorem insI_perm (x : Int) : ∀ ys : List Int, (insI x ys).Perm (x :: ys)
  | [] => .refl _
  | y :: ys => by
    unfold insI
    split
    · exact .refl _
    · exact ((insI_perm x ys).cons y).trans (.swap x y ys)
theorem sortI_perm : ∀ xs : List Int, (sortI xs).Perm xs
  | [] => .refl _
  | x :: xs => (insI_perm x _).trans ((sortI_perm xs).cons x)
theorem insI_sorted (x : Int) : ∀ {ys : List Int}, ys.Pairwise (· ≤ ·) → (insI x ys).Pairwise (· ≤ ·)
  | [], _ => List.pairwise_singleton _ _
  | y :: ys, h => by
    unfold insI
    obtain ⟨h1, h2⟩ := List.pairwise_cons.mp h
    split
    · rename_i c
      exact List.pairwise_cons.mpr ⟨fun z hz => by
        rcases List.mem_cons.mp hz with e | e
        · rw [e]; exact c
        · exact Int.le_trans c (h1 z e), h⟩
    · rename_i c
      refine List.pairwise_cons.mpr ⟨fun z hz => ?_, insI_sorted x h2⟩
      rcases List.mem_cons.mp ((insI_perm x ys).mem_iff.mp hz) with e | e
      · rw [e]; omega
      · exact h1 z e
theorem sortI_sorted : ∀ xs : List Int, (sortI xs).Pairwise (· ≤ ·)
  | [] => .nil
  | x :: xs => insI_sorted x (sortI_sorted xs)
theorem sortI_eq {xs ys : List Int} (h : ys.Perm xs) (s : ys.Pairwise (· ≤ ·)) : ys = sortI xs :=
  PySem.W.ksm_same (h.trans (sortI_perm xs).symm) s (sortI_sorted xs)
def keyInts : List (Key × D) → Option (List Int)
  | [] => some []
  | (.inl i, _) :: r => (keyInts r).map (i :: ·)
  | _ :: _ => none
theorem keyInts_ok : ∀ {kvs : List (Key × D)} {ns : List Int}, keyInts kvs = some ns → kvs.map (·.1) = ns.map Sum.inl
  | [], _, e => by cases e; rfl
  | (k, d) :: r, ns, e => by
    cases k with
    | inl i =>
      have e : (keyInts r).map (i :: ·) = some ns := e
      cases q : keyInts r with
      | none => rw [q] at e; cases e
      | some ms => rw [q] at e; cases e; rw [List.map_cons, List.map_cons, keyInts_ok q]
    | inr x => cases e
def sortedF : OA := fun ts S => match ts with
  | [.im (.tup ds)] => (match intsOf ds with
      | some ns => if ns.length < 64 then .ok (.vl ((sortI ns).map D.int)) S else .stuck
      | none => .stuck)
  | [t] => (match lstOf S t with
    | some ds => (match intsOf ds with
      | some ns => .ok (.vl ((sortI ns).map D.int)) S
      | none => .stuck)
    | none => (match dicOf S t with
      | some kvs => (match keyInts kvs with
        | some ns => if ns.length < 64 then .ok (.vl ((sortI ns).map D.int)) S else .stuck
        | none => .stuck)
      | none => .stuck))
  | _ => .stuck
def rSortedTu (K : PySem.W.Frag) : List V → Hp → VK → Prop := fun xs H Q => ∃ (a : Addr) (ks : List Int), xs = [.ref a] ∧ SqT K H a (ks.map V.int) ∧ ks.length < 64 ∧
    ∀ (ys : List Int) (p : Addr), ys.Perm ks → ys.Pairwise (· ≤ ·) → H p = none → Q (.ref p) (upd H p (.lst (ys.map V.int)))
theorem cr_sortedTu {X : Cx} : CallR X (.builtin "sorted") (rSortedTu X.K) := by
  intro pins s σ H xs us Q I r q
  obtain ⟨a, ks, ex, hd, h64, q⟩ := q
  subst ex
  obtain ⟨u, eu, rx⟩ := vals1 r
  subst eu
  cases rx
  obtain ⟨its, rv, ⟨o, ho, hcls, n, hdat⟩, hz⟩ := I.tuple hd
  have hS : PyProof.Rows.IntsAre its ks := rv.ints
  have hal : its.length = ks.length := by rw [← rv.length, List.length_map]
  have h16 : its.toArray.size ≤ sizeLine := by rw [List.size_toArray, hal, sizeLine_eq]; omega
  refine Calls.call_function_entry PyProof.Rows.kind_sorted PyProof.Rows.plain_sorted PyProof.Rows.entry_sorted (PyProof.Rows.args_sorted1 _) ?_
  unfold Builtin.«sorted»
  refine wpAny_bind (m := checkCount "sorted" 1 1 _) (wpAny_pure ?_)
  refine wpAny_bind (wpAny_collect_seq a (.inr rfl) ho hcls hdat (fun h' hk => ?_) h16)
  rw [List.toList_toArray]
  have I1 : Inv X _ σ H { s with heap := h' } := I.kept hk
  refine wpAny_bind (wpAny_newList ?_ (by rw [hal, sizeLine_eq]; omega))
  have hoL : (h'.push (PyProof.Rows.seqObj "list" its.toArray 0)).get? h'.objs.size = some (PyProof.Rows.seqObj "list" its.toArray 0) := Heap.get?_push_size _ rfl
  show wpAny _ _ _ _ _ { s with heap := h'.push (PyProof.Rows.seqObj "list" its.toArray 0) }
  refine wpAny_bind (wpAny_holding (wpAny_call_entry PyProof.Rows.slot_list_sort ⟨_, hoL, rfl⟩ PyProof.Rows.entry_list_sort
    (PyProof.Rows.list_sort_tree (s := { s with heap := h'.push (PyProof.Rows.seqObj "list" its.toArray 0) }) hoL hS (by rw [hal]; exact h64) fun out ys g1 g2 g3 => ⟨_, rfl, ?_⟩) (PyProof.Rows.args_list_sort _)))
  obtain ⟨e', he'⟩ := PyProof.Rows.sortedHeap_at (vs := its) (out := out) hoL
  have hlen : (ys.map V.int).length ≤ sizeLine := by
    rw [List.length_map, g2.length_eq]
    exact Nat.le_trans (Nat.le_of_lt h64) (by decide)
  refine wpAny_pure ⟨_, rfl, .ref h'.objs.size, upd H h'.objs.size (.lst (ys.map V.int)), I1.laid (t' := s.toks) (fun b u e => ?_) (Nat.le_refl _)
    (show ObjOk X.prog X.w _ _ _ (.lst (ys.map V.int)) from ⟨hlen, out.toList, e', vals_of_ints g1, by rw [Array.toArray_toList]; exact he'⟩), rfl, q ys _ g2 g3 (I1.hok.fresh (Nat.le_refl _))⟩
  have hb : b < h'.objs.size := Heap.lt_size e
  rw [PyProof.Rows.sortedHeap_old (Nat.ne_of_lt hb) (by rw [PyProof.Rows.size_push']; exact Nat.lt_succ_of_lt hb)]
  exact Heap.get?_push_of_some _ e
def rSortedM (K : PySem.W.Frag) : List V → Hp → VK → Prop := fun xs H Q => rSortedI K xs H Q ∨ rSortedTu K xs H Q ∨
  ∃ (a : Addr) (kvs : List (Key × V)) (ks : List Int), xs = [.ref a] ∧ Rd H a (.dK kvs) ∧ kvs.map (·.1) = ks.map Sum.inl ∧ ks.length < 64 ∧
    ∀ (ys : List Int) (p : Addr), ys.Perm ks → ys.Pairwise (· ≤ ·) → H p = none → Q (.ref p) (upd H p (.lst (ys.map V.int)))
theorem cr_sortedM {X : Cx} (hc : X.calm = true) : CallR X (.builtin "sorted") (rSortedM X.K) := cr_sortedI.or (cr_sortedTu.or (call_sortedDI hc))
theorem sortedF_ok : OpA C W b sortedF (rSortedM C.K) := by
  intro H μ S vs ts Q s r p
  unfold sortedF at p
  split at p
  · obtain ⟨v, rfl, r1⟩ := one_arg (ts := []) r
    split at p
    · rename_i ns e2
      split at p
      · rename_i hl64
        cases r1 with
        | tup h r2 z =>
          rw [intsOf_ok e2] at r2
          rw [r2.toInts] at h
          refine .inr (.inl ⟨_, ns, rfl, h, hl64, fun ys l hp hs hl => ?_⟩)
          rw [sortI_eq hp hs]
          exact end_vl s hl (RDs.ints _) (by rw [List.length_map, (sortI_perm ns).length_eq]; unfold line; omega) p
      · exact p.elim
    · exact p.elim
  · obtain ⟨v, rfl, r1⟩ := one_arg (ts := []) r
    split at p
    · rename_i ds e
      obtain ⟨a, ws, rfl, h, r2, z⟩ := lstOf_ok s r1 e
      split at p
      · rename_i ns e2
        rw [intsOf_ok e2] at r2 z
        rw [r2.toInts] at h
        refine .inl ⟨a, ns, rfl, h, fun ys l hp hs hl => ?_⟩
        rw [sortI_eq hp hs]
        exact end_vl s hl (RDs.ints _) (by rw [List.length_map, (sortI_perm ns).length_eq]; simpa using z) p
      · exact p.elim
    · split at p
      · rename_i kvs e
        obtain ⟨a, ps, rfl, h, k, z, _⟩ := dicOf_ok s r1 e
        split at p
        · rename_i ns e2
          split at p
          · rename_i hl64
            refine .inr (.inr ⟨a, ps, ns, rfl, h, by rw [k.keys, keyInts_ok e2], hl64, fun ys l hp hs hl => ?_⟩)
            rw [sortI_eq hp hs]
            exact end_vl s hl (RDs.ints _) (by rw [List.length_map, (sortI_perm ns).length_eq]; unfold line; omega) p
          · exact p.elim
        · exact p.elim
      · exact p.elim
  · exact p.elim
/-! ### dict(pairs), dict(d) -/
def pairsOf : List D → Option (List (Key × D))
  | [] => some []
  | .tup [.int i, d] :: r => (pairsOf r).map ((.inl i, d) :: ·)
  | .tup [.str x, d] :: r => (pairsOf r).map ((.inr x, d) :: ·)
  | _ :: _ => none
def mergeD (more : List (Key × D)) : List (Key × D) → List (Key × D) := fun kvs => more.foldl (fun acc kv => putD acc kv.1 kv.2) kvs
theorem pairsOf_ok : ∀ {ds : List D} {kvs : List (Key × D)} {vs : List V}, RDs C H μ vs ds → pairsOf ds = some kvs → ∃ (ps : List Addr) (ws : List (Key × V)), vs = ps.map V.ref ∧ KD C H μ ws kvs ∧ Paired (fun p kv => SqT C.K H p [kV kv.1, kv.2]) ps ws
  | [], _, _, .nil, e => by cases e; exact ⟨[], [], rfl, .nil, .nil⟩
  | d :: r, kvs, _, .cons (v := v0) (vs := vs0) h t, e => by
    have two : ∀ {a : D} {k : Key} {d' : D}, d = .tup [a, d'] → keyV k = a → (pairsOf r).map ((k, d') :: ·) = some kvs → ∃ (ps : List Addr) (ws : List (Key × V)), v0 :: vs0 = ps.map V.ref ∧ KD C H μ ws kvs ∧ Paired (fun p kv => SqT C.K H p [kV kv.1, kv.2]) ps ws := by
      intro a k d' ed ek e5
      clear e
      subst ed
      cases q : pairsOf r with
      | none => rw [q] at e5; cases e5
      | some ms =>
        rw [q] at e5; cases e5
        obtain ⟨ps, ws, rfl, k2, p2⟩ := pairsOf_ok t q
        cases h with
        | @tup ad xs _ hs r2 z =>
          cases r2 with
          | @cons y1 _ _ _ q1 q2 =>
            cases q2 with
            | cons q3 q4 =>
              cases q4
              have ev : y1 = kV k := by
                subst ek
                cases k with
                | inl i => cases q1; exact rfl
                | inr x => cases q1; exact rfl
              subst ev
              exact ⟨ad :: ps, (k, _) :: ws, rfl, .cons ⟨rfl, q3⟩ k2, .cons hs p2⟩
    unfold pairsOf at e
    split at e
    · rename_i ec; cases ec
    · rename_i i d' r' ec
      injection ec with e1 e2
      subst e2
      exact two (k := .inl i) e1 rfl e
    · rename_i i d' r' ec
      injection ec with e1 e2
      subst e2
      exact two (k := .inr i) e1 rfl e
    · cases e
theorem KD.merge {more : List (Key × V)} {moreD : List (Key × D)} (h : KD C H μ more moreD) : ∀ {ps : List (Key × V)} {kvs : List (Key × D)}, KD C H μ ps kvs → (kvs.map (·.1)).Nodup → KD C H μ (mergeK ps more) (mergeD moreD kvs) ∧ ((mergeD moreD kvs).map (·.1)).Nodup ∧ (mergeD moreD kvs).length ≤ kvs.length + moreD.length := by
  induction h with
  | nil => intro ps kvs k nd; exact ⟨k, nd, Nat.le_refl _⟩
  | @cons p q l1 l2 r t ih =>
    intro ps kvs k nd
    have k2 : KD C H μ (putK ps p.1 p.2) (putD kvs q.1 q.2) := by rw [r.1]; exact KD.put r.2 k nd
    obtain ⟨h1, h2, h3⟩ := ih k2 (putD_nd nd)
    refine ⟨h1, h2, ?_⟩
    have := putD_len (kvs := kvs) (k := q.1) (d := q.2)
    have e : mergeD (q :: l2) kvs = mergeD l2 (putD kvs q.1 q.2) := rfl
    rw [e, List.length_cons]
    omega
def dictF : OA := fun ts S => match ts with
  | [t] => (match lstOf S t with
    | some ds => (match pairsOf ds with
      | some kvs => .ok (.vd (mergeD kvs [])) S
      | none => .stuck)
    | none => (match dicOf S t with
      | some kvs => .ok (.vd kvs) S
      | none => .stuck))
  | _ => .stuck
def rDictM (K : PySem.W.Frag) : List V → Hp → VK → Prop := fun xs H Q => (∃ (a : Addr) (ps : List Addr) (kvs : List (Key × V)), xs = [.ref a] ∧ SqL K H a (ps.map V.ref) ∧ Paired (fun p kv => SqT K H p [kV kv.1, kv.2]) ps kvs ∧
    ∀ p, H p = none → Q (.ref p) (upd H p (.dK (mergeK [] kvs)))) ∨ ∃ (a : Addr) (kvs : List (Key × V)), xs = [.ref a] ∧ Rd H a (.dK kvs) ∧ ∀ p, H p = none → Q (.ref p) (upd H p (.dK kvs))
theorem cr_dictM {X : Cx} (hc : X.calm = true) : CallR X (.type "dict") (rDictM X.K) := (call_dictP hc).or call_dictD
theorem pairsOf_len : ∀ {ds : List D} {kvs : List (Key × D)} , pairsOf ds = some kvs → kvs.length = ds.length
  | [], _, e => by cases e; rfl
  | d :: r, kvs, e => by
    unfold pairsOf at e
    split at e
    · rename_i ec; cases ec
    · rename_i i d' r' ec
      injection ec with e1 e2
      subst e2
      cases q : pairsOf r with
      | none => rw [q] at e; cases e
      | some ms => rw [q] at e; cases e; simp [pairsOf_len q]
    · rename_i i d' r' ec
      injection ec with e1 e2
      subst e2
      cases q : pairsOf r with
      | none => rw [q] at e; cases e
      | some ms => rw [q] at e; cases e; simp [pairsOf_len q]
    · cases e
theorem dictF_ok : OpA C W b dictF (rDictM C.K) := by
  intro H μ S vs ts Q s r p
  unfold dictF at p
  split at p
  · obtain ⟨v, rfl, r1⟩ := one_arg (ts := []) r
    split at p
    · rename_i ds e
      obtain ⟨a, ws, rfl, h, r2, z⟩ := lstOf_ok s r1 e
      split at p
      · rename_i kvs e2
        obtain ⟨ps, xs, rfl, k, pp⟩ := pairsOf_ok r2 e2
        obtain ⟨h1, h2, h3⟩ := KD.merge k (ps := []) (kvs := []) .nil List.nodup_nil
        have hl := pairsOf_len e2
        exact .inl ⟨a, ps, xs, rfl, h, pp, fun l hl' => end_vd s hl' h1 (by simp at h3; omega) h2 p⟩
      · exact p.elim
    · split at p
      · rename_i kvs e
        obtain ⟨a, ps, rfl, h, k, z, nd⟩ := dicOf_ok s r1 e
        exact .inr ⟨a, ps, rfl, h, fun l hl => end_vd s hl k z nd p⟩
      · exact p.elim
  · exact p.elim
end
end DL

/-! The data layer: calls of defs, statements. -/
namespace DL
open PySem PySem.Spec L2

/-! ### defs -/
abbrev FS := List T → Sto → Res T
def ArgsOwn (vs : List V) (ts : List T) (a : Addr) : Prop := ∃ (i : Nat) (t : T), ts[i]? = some t ∧ t.own = true ∧ vs[i]? = some (V.ref a)
def FreshP (H : Hp) (P : Addr → Prop) (v : V) (t : T) : Prop := t.own = true → ∃ a, v = .ref a ∧ (Nw H a ∨ P a)
def PostC (C : Cn) (E : XK) (P : Addr → Prop) (H : Hp) (μ : List Addr) (Q : VK) : Res T → Prop
  | .ok t S' => ∀ v H' μ', Ext C P H μ H' μ' → RT C H' μ' v t → FreshP H P v t → SR C H' μ' S' → Q v H'
  | .exc e S' => PostX C E P H μ e S'
  | .stuck => False
structure ArgsC (C : Cn) (H : Hp) (μ : List Addr) (vs : List V) (ts : List T) : Prop where
  rt : Paired (RT C H μ) vs ts
  apart : ∀ (i j : Nat) (t u : T) (a : Addr), ts[i]? = some t → t.own = true → ts[j]? = some u → u.own = true → vs[i]? = some (V.ref a) → vs[j]? = some (V.ref a) → i = j
/-- a def of n parameters does what F tells -/
def spF (C : Cn) (n : Nat) (F : FS) : Sp := fun vs H Q E => ∃ ts μ S, ts.length = n ∧ SR C H μ S ∧ ArgsC C H μ vs ts ∧ PostC C E (ArgsOwn vs ts) H μ Q (F ts S)
theorem Paired.at_ {α β : Type} {F : α → β → Prop} {l : List α} {k : List β} (h : Paired F l k) : ∀ (j : Nat) (w : α) (u : β), l[j]? = some w → k[j]? = some u → F w u := by
  induction h with
  | nil => intro j w u h; simp at h
  | cons r t ih =>
    intro j w u
    cases j with
    | zero => intro h1 h2; simp at h1 h2; subst h1; subst h2; exact r
    | succ j => intro h1 h2; exact ih j w u (by simpa using h1) (by simpa using h2)
theorem Paired.len {α β : Type} {F : α → β → Prop} {l : List α} {k : List β} (h : Paired F l k) : l.length = k.length := by
  induction h with
  | nil => rfl
  | cons r t ih => simp [ih]
theorem spF_len {C : Cn} {n : Nat} {F : FS} : ∀ vs H Q E, spF C n F vs H Q E → vs.length = n := fun vs H Q E h => by
  obtain ⟨ts, μ, S, hl, _, A, _⟩ := h
  rw [Paired.len A.rt]; exact hl
def callM (n : Nat) (F : FS) (m : MA) : M := bind m fun ts _ S => if ts.length = n then F ts S else .stuck
section
variable {C : Cn} {W : XK} {X : Cx} {e : Expr} {es : List Expr} {m : MA} {b : Bool} {pos p : Pos} {x : Str} {k n : Nat} {f : Addr} {fd : FuncData} {ps : List Str} {F : FS}
theorem rd_call {σ : St} {H : Hp} {Q : VK} (q : tD C W b (callM n F m) σ H Q) : tCall (spF C n F) [] W (tDA C W m) σ H Q := by
  obtain ⟨ρ, μ, S, R, p⟩ := q
  refine readA R p fun ts S1 vs H1 μ1 e1 A R1 p1 _ => ?_
  split at p1
  · rename_i hn
    rw [List.append_nil]
    have hP : ∀ a, ArgsOwn vs ts a → no a ∨ Nw H a := fun a ⟨i, t, h1, h2, h3⟩ => by
      obtain ⟨a', e2, e3⟩ := Paired.at_ A.fr i _ _ h3 h1 h2
      cases e2
      exact .inr e3
    refine ⟨ts, μ1, S1, hn, R1.sr, ⟨A.rt, A.apart⟩, ?_⟩
    cases eF : F ts S1 with
    | ok t S2 =>
      rw [eF] at p1
      intro v H2 μ2 e2 rt fr s2
      refine p1 v H2 μ2 (e1.trans e2 hP) rt (fun _ o => ?_) s2
      obtain ⟨a, ea, h⟩ := fr o
      refine ⟨a, ea, ?_⟩
      rcases h with h | h
      · exact nw_back e1 h
      · rcases hP a h with z | z
        · exact z.elim
        · exact z
    | exc x S2 =>
      rw [eF] at p1
      exact fun cv dx H2 μ2 e2 s2 xr => p1 cv dx H2 μ2 (e1.trans e2 hP) s2 xr
    | stuck => rw [eF] at p1; exact p1
  · exact p1.elim
theorem de_call (G : FnOk X.prog X.w X.K X.mg X.base (L2.CX X.prog X.w) k f fd ps (spF C n F)) (hr : Room k X.A) (hg : Gl X x) (hm : X.mg x = some (.ref f)) (hk : PySem.W.keepIn X.K (.ref f) = true) (hb : Binds X.K fd ps [])
    (tk : Takes X fun c d _ H => W c d H) (ha : DA X C W (e :: es) m) (hdb : (x == ("__debug__" : Str)) = false) (he : starEach (e :: es) X.env = (false, eval e X.env) :: starEach es X.env) (hpl : (backTo pos (starEach es X.env)).any (·.1) = false) :
    DE X C W b (.Call (.Name x p) (e :: es) [] pos) (callM n F m) :=
  impE (pe_call (E := W) G hr hg hm hk hb .nil (passes_call tk fun _ _ _ _ h => h) ha hdb he hpl) fun σ H Q q => rd_call q
theorem rd_call0 {σ : St} {H : Hp} {Q : VK} (q : tD C W b (callM n F (argsM [])) σ H Q) : tCall (spF C n F) [] W tNil σ H Q := by
  have h := rd_call q
  obtain ⟨ρ, μ, S, R, p⟩ := h
  exact p [] H μ Ext.refl ⟨.nil, .nil, fun i j t u a h => by simp at h⟩ R.sr
theorem de_call0 (G : FnOk X.prog X.w X.K X.mg X.base (L2.CX X.prog X.w) k f fd ps (spF C n F)) (hr : Room k X.A) (hg : Gl X x) (hm : X.mg x = some (.ref f)) (hk : PySem.W.keepIn X.K (.ref f) = true) (hb : Binds X.K fd ps [])
    (tk : Takes X fun c d _ H => W c d H) (hdb : (x == ("__debug__" : Str)) = false) : DE X C W b (.Call (.Name x p) [] [] pos) (callM n F (argsM [])) :=
  impE (pe_call0 (E := W) G hr hg hm hk hb .nil (passes_call tk fun _ _ _ _ h => h) hdb) fun σ H Q q => rd_call0 q
end

/-! ### statements -/
inductive Fl where
  | nx | rt (t : T) | bk | ct
abbrev MS := Ev → Sto → Res (Fl × Ev)
def Sub (H : Hp) (P P' : Addr → Prop) : Prop := ∀ a, P' a → P a ∨ Nw H a
def PostS (C : Cn) (W : XK) (P : Addr → Prop) (H : Hp) (μ : List Addr) (D : Ends) : Res (Fl × Ev) → Prop
  | .ok (.nx, ρ') S' => ∀ σ' H' μ', Ext C P H μ H' μ' → Rel C H' μ' σ' ρ' S' → Sub H P (Own σ' ρ') → D.nx σ' H'
  | .ok (.bk, ρ') S' => ∀ σ' H' μ', Ext C P H μ H' μ' → Rel C H' μ' σ' ρ' S' → Sub H P (Own σ' ρ') → D.bk σ' H'
  | .ok (.ct, ρ') S' => ∀ σ' H' μ', Ext C P H μ H' μ' → Rel C H' μ' σ' ρ' S' → Sub H P (Own σ' ρ') → D.ct σ' H'
  | .ok (.rt t, _) S' => ∀ v H' μ', Ext C P H μ H' μ' → RT C H' μ' v t → FreshP H P v t → SR C H' μ' S' → D.rt v H'
  | .exc e S' => PostX C W P H μ e S'
  | .stuck => False
def tS (C : Cn) (W : XK) (m : MS) : TS := fun D σ H => ∃ ρ μ S, Rel C H μ σ ρ S ∧ PostS C W (Own σ ρ) H μ D (m ρ S)
abbrev DS (X : Cx) (C : Cn) (W : XK) (s : Stmt) (m : MS) : Prop := PS X s (tS C W m)
abbrev DSs (X : Cx) (C : Cn) (W : XK) (s : List Stmt) (m : MS) : Prop := PSs X s (tS C W m)
def skipM : MS := fun ρ S => .ok (.nx, ρ) S
def seqM (m n : MS) : MS := fun ρ S => match m ρ S with
  | .ok (.nx, ρ') S' => n ρ' S'
  | r => r
section
variable {C : Cn} {W : XK} {X : Cx} {H H' : Hp} {μ μ' : List Addr} {σ σ' : St} {ρ ρ' : Ev} {S S' : Sto} {D : Ends} {P P' : Addr → Prop}
theorem PostX.extP {e : Exc} (x : Ext C P H μ H' μ') (sub : Sub H P P') (p : PostX C W P H μ e S') : PostX C W P' H' μ' e S' := fun cv dx H2 μ2 e2 s xr => p cv dx H2 μ2 (x.trans e2 sub) s xr
theorem Sub.trans {P2 : Addr → Prop} (x : Ext C P H μ H' μ') (s : Sub H P P') (t : Sub H' P' P2) : Sub H P P2 := fun a h => by
  rcases t a h with z | z
  · exact s a z
  · exact .inr (nw_back x z)
theorem PostS.ext (x : Ext C P H μ H' μ') (sub : Sub H P P') {r : Res (Fl × Ev)} (p : PostS C W P H μ D r) : PostS C W P' H' μ' D r := by
  cases r with
  | ok a S1 =>
    obtain ⟨f, ρ1⟩ := a
    cases f with
    | nx => exact fun σ1 H1 μ1 e1 R1 s1 => p σ1 H1 μ1 (x.trans e1 sub) R1 (Sub.trans x sub s1)
    | bk => exact fun σ1 H1 μ1 e1 R1 s1 => p σ1 H1 μ1 (x.trans e1 sub) R1 (Sub.trans x sub s1)
    | ct => exact fun σ1 H1 μ1 e1 R1 s1 => p σ1 H1 μ1 (x.trans e1 sub) R1 (Sub.trans x sub s1)
    | rt t => exact fun v H1 μ1 e1 r f s => p v H1 μ1 (x.trans e1 sub) r (fun o => by
        obtain ⟨a, ea, h⟩ := f o
        refine ⟨a, ea, ?_⟩
        rcases h with h | h
        · exact .inl (nw_back x h)
        · exact (sub a h).symm) s
  | exc e S1 => exact PostX.extP x sub p
  | stuck => exact p
theorem ss_nil : DSs X C W [] skipM := impSs pss_nil fun D σ H q => by
  obtain ⟨ρ, μ, S, R, p⟩ := q
  exact p σ H μ Ext.refl R fun a h => .inl h
theorem ss_cons {s : Stmt} {ss : List Stmt} {m n : MS} (h1 : DS X C W s m) (h2 : DSs X C W ss n) : DSs X C W (s :: ss) (seqM m n) := impSs (pss_cons h1 h2) fun D σ H q => by
  obtain ⟨ρ, μ, S, R, p⟩ := q
  refine ⟨ρ, μ, S, R, ?_⟩
  unfold seqM at p
  cases e : m ρ S with
  | ok a S1 =>
    rw [e] at p
    obtain ⟨f, ρ1⟩ := a
    cases f with
    | nx => exact fun σ1 H1 μ1 e1 R1 s1 => ⟨ρ1, μ1, S1, R1, PostS.ext e1 s1 p⟩
    | bk => exact p
    | ct => exact p
    | rt t => exact p
  | exc x S1 => rw [e] at p; exact p
  | stuck => rw [e] at p; exact p
theorem ds_pass {pos : Pos} : DS X C W (.Pass pos) skipM := impS ps_pass fun D σ H q => by
  obtain ⟨ρ, μ, S, R, p⟩ := q
  exact p σ H μ Ext.refl R fun a h => .inl h
def breakM : MS := fun ρ S => .ok (.bk, ρ) S
def contM : MS := fun ρ S => .ok (.ct, ρ) S
theorem ds_break {pos : Pos} : DS X C W (.Break pos) breakM := impS ps_break fun D σ H q => by
  obtain ⟨ρ, μ, S, R, p⟩ := q
  exact p σ H μ Ext.refl R fun a h => .inl h
theorem ds_cont {pos : Pos} : DS X C W (.Continue pos) contM := impS ps_continue fun D σ H q => by
  obtain ⟨ρ, μ, S, R, p⟩ := q
  exact p σ H μ Ext.refl R fun a h => .inl h
/-! ### an expression first -/
def bindS (m : M) (k : T → MS) : MS := fun ρ S => match m ρ S with
  | .ok t S' => k t ρ S'
  | .exc e S' => .exc e S'
  | .stuck => .stuck
theorem own_ext (x : Ext C no H μ H' μ') : Ext C P H μ H' μ' := x.mono fun _ z => no_or z
theorem readS {b' : Bool} {m : M} {Q' : VK} (R : Rel C H μ σ ρ S) {k : T → MS} (p : PostS C W P H μ D (bindS m k ρ S))
    (hk : ∀ t S1 v H1 μ1, Ext C no H μ H1 μ1 → RT C H1 μ1 v t → (b' = false → Fresh H v t) → Rel C H1 μ1 σ ρ S1 → PostS C W P H1 μ1 D (k t ρ S1) → PostS C W P H μ D (k t ρ S1) → Q' v H1) : tD C W b' m σ H Q' := by
  refine ⟨ρ, μ, S, R, ?_⟩
  unfold bindS at p
  cases e : m ρ S with
  | ok t S1 =>
    rw [e] at p
    exact fun v H1 μ1 e1 rt f s => hk t S1 v H1 μ1 e1 rt f (R.ext e1 s) (PostS.ext (own_ext e1) (fun _ z => .inl z) p) p
  | exc x S1 =>
    rw [e] at p
    exact fun cv dx H2 μ2 e2 s2 xr => p cv dx H2 μ2 (own_ext e2) s2 xr
  | stuck =>
    rw [e] at p
    exact p
theorem readST {m : M} {Q' : Bool → Hp → Prop} (R : Rel C H μ σ ρ S) {k : T → MS} (p : PostS C W P H μ D (bindS m k ρ S)) (hb : ∀ t S1, (∀ c, t ≠ .im (.bl c)) → k t ρ S1 = .stuck)
    (hk : ∀ c S1 H1 μ1, Ext C no H μ H1 μ1 → Rel C H1 μ1 σ ρ S1 → PostS C W P H1 μ1 D (k (.im (.bl c)) ρ S1) → PostS C W P H μ D (k (.im (.bl c)) ρ S1) → Q' c H1) : tDT C W m σ H Q' := by
  refine ⟨ρ, μ, S, R, ?_⟩
  unfold bindS at p
  cases e : m ρ S with
  | ok t S1 =>
    rw [e] at p
    by_cases hc : ∃ c, t = .im (.bl c)
    · obtain ⟨c, rfl⟩ := hc
      exact fun H1 μ1 e1 s => hk c S1 H1 μ1 e1 (R.ext e1 s) (PostS.ext (own_ext e1) (fun _ z => .inl z) p) p
    · have z := hb t S1 (fun c q => hc ⟨c, q⟩)
      have p' : PostS C W P H μ D (k t ρ S1) := p
      rw [z] at p'
      exact p'.elim
  | exc x S1 =>
    rw [e] at p
    exact fun cv dx H2 μ2 e2 s2 xr => p cv dx H2 μ2 (own_ext e2) s2 xr
  | stuck =>
    rw [e] at p
    exact p
def isB (t : T) : Option Bool := match t with
  | .im (.bl b) => some b
  | _ => none
def exprM (m : M) : MS := bindS m fun _ ρ S => .ok (.nx, ρ) S
theorem ds_expr {b : Bool} {e : Expr} {pos : Pos} {m : M} (he : DE X C W b e m) (hs : swapsWith e none pos.line X.env = pure false) : DS X C W (.Expr e pos) (exprM m) := impS (ps_expr he hs) fun D σ H q => by
  obtain ⟨ρ, μ, S, R, p⟩ := q
  exact readS R p fun t S1 v H1 μ1 e1 rt f R1 p1 _ => p1 σ H1 μ1 Ext.refl R1 fun a h => .inl h
def retM (m : M) : MS := bindS m fun t ρ S => .ok (.rt t, ρ) S
theorem ds_ret {e : Expr} {pos : Pos} {m : M} (he : DE X C W false e m) : DS X C W (.Return (some e) pos) (retM m) := impS (ps_ret he) fun D σ H q => by
  obtain ⟨ρ, μ, S, R, p⟩ := q
  exact readS R p fun t S1 v H1 μ1 e1 rt f R1 p1 p0 => p0 v H1 μ1 (own_ext e1) rt (fun o => by
    obtain ⟨a, e2, e3⟩ := f rfl o
    exact ⟨a, e2, .inl e3⟩) R1.sr
/-- what a slot alone holds is handed back -/
theorem ds_retSlot {x : Str} {i : Nat} {pos pos' : Pos} (hN : X.N[i]? = some x) (hv : Vis X.env.scope x) (hd : (x == ("__debug__" : Str)) = false) (hcd : (x == ("__classdict__" : Str)) = false) : DS X C W (.Return (some (.Name x pos)) pos') (retM (slot true i)) :=
  impS (ps_ret (pe_var hN hv hd hcd)) fun D σ H q => by
    obtain ⟨ρ, μ, S, R, p⟩ := q
    unfold retM bindS slot at p
    cases e : ρ[i]? with
    | none => rw [e] at p; exact p.elim
    | some o =>
      cases o with
      | none => rw [e] at p; exact p.elim
      | some t =>
        rw [e] at p
        simp only [Bool.not_true, Bool.and_false] at p
        obtain ⟨v, e1, rt⟩ := R.at_ i t e
        refine ⟨v, e1, p v H μ Ext.refl rt (fun o => ?_) R.sr⟩
        cases t with
        | im d => cases o
        | vl ds => obtain ⟨a, ws, ea, _⟩ := rt; exact ⟨a, ea, .inr ⟨i, _, e, rfl, by rw [e1, ea]⟩⟩
        | vd ds => obtain ⟨a, ws, ea, _⟩ := rt; exact ⟨a, ea, .inr ⟨i, _, e, rfl, by rw [e1, ea]⟩⟩
def retN : MS := fun ρ S => .ok (.rt (.im .non), ρ) S
theorem ds_retN {pos : Pos} : DS X C W (.Return none pos) retN := impS ps_retN fun D σ H q => by
  obtain ⟨ρ, μ, S, R, p⟩ := q
  exact p _ H μ Ext.refl RD.non (fun o => Bool.noConfusion o) R.sr
def ifM (m : M) (a b : MS) : MS := bindS m fun t => match t with
  | .im (.bl true) => a
  | .im (.bl false) => b
  | _ => fun _ _ => .stuck
theorem ds_if {c : Expr} {x y : List Stmt} {pos : Pos} {m : M} {a b : MS} (hc : DT X C W c m) (ha : DSs X C W x a) (hb : DSs X C W y b) : DS X C W (.If c x y pos) (ifM m a b) := impS (ps_if hc ha hb) fun D σ H q => by
  obtain ⟨ρ, μ, S, R, p⟩ := q
  refine readST R p (fun t S1 h => ?_) fun k S1 H1 μ1 e1 R1 p1 _ => ?_
  · cases t with
    | im d => cases d with
      | bl k => exact absurd rfl (h k)
      | _ => rfl
    | _ => rfl
  · cases k with
    | true => rw [if_pos rfl]; exact ⟨ρ, μ1, S1, R1, p1⟩
    | false => rw [if_neg (by decide)]; exact ⟨ρ, μ1, S1, R1, p1⟩
/-! ### stores to slots -/
theorem Rel.set {v : V} {t : T} {i : Nat} (R : Rel C H μ σ ρ S) (rt : RT C H μ v t) (fr : ∀ a, t.own = true → v = .ref a → ¬ Own σ ρ a) : Rel C H μ (σ.set i (some v)) (ρ.set i (some t)) S := by
  refine ⟨R.sr, by simp [R.len], fun j u h => ?_, fun j k u w a h1 h2 h3 h4 h5 h6 => ?_⟩
  · by_cases hj : j = i
    · subst hj
      have hl : j < ρ.length := by
        have := (List.getElem?_eq_some_iff.mp h).1
        simpa using this
      rw [List.getElem?_set_self hl] at h
      cases h
      exact ⟨v, by rw [List.getElem?_set_self (by rw [R.len]; exact hl)], rt⟩
    · rw [List.getElem?_set_ne (Ne.symm hj)] at h
      obtain ⟨w, e1, e2⟩ := R.at_ j u h
      exact ⟨w, by rw [List.getElem?_set_ne (Ne.symm hj)]; exact e1, e2⟩
  · by_cases hj : j = i
    · by_cases hk : k = i
      · rw [hj, hk]
      · exfalso
        subst hj
        have hl : j < ρ.length := by
          have := (List.getElem?_eq_some_iff.mp h1).1
          simpa using this
        rw [List.getElem?_set_self hl] at h1
        rw [List.getElem?_set_self (by rw [R.len]; exact hl)] at h5
        cases h1; cases h5
        rw [List.getElem?_set_ne (Ne.symm hk)] at h3 h6
        exact fr a h2 rfl ⟨k, w, h3, h4, h6⟩
    · by_cases hk : k = i
      · exfalso
        subst hk
        have hl : k < ρ.length := by
          have := (List.getElem?_eq_some_iff.mp h3).1
          simpa using this
        rw [List.getElem?_set_self hl] at h3
        rw [List.getElem?_set_self (by rw [R.len]; exact hl)] at h6
        cases h3; cases h6
        rw [List.getElem?_set_ne (Ne.symm hj)] at h1 h5
        exact fr a h4 rfl ⟨j, u, h1, h2, h5⟩
      · rw [List.getElem?_set_ne (Ne.symm hj)] at h1 h5
        rw [List.getElem?_set_ne (Ne.symm hk)] at h3 h6
        exact R.apart j k u w a h1 h2 h3 h4 h5 h6
theorem own_set {v : V} {t : T} {i : Nat} {a : Addr} (h : Own (σ.set i (some v)) (ρ.set i (some t)) a) (hl : σ.length = ρ.length) : Own σ ρ a ∨ (t.own = true ∧ v = .ref a) := by
  obtain ⟨j, u, h1, h2, h3⟩ := h
  by_cases hj : j = i
  · subst hj
    have hl' : j < ρ.length := by
      have := (List.getElem?_eq_some_iff.mp h1).1
      simpa using this
    rw [List.getElem?_set_self hl'] at h1
    rw [List.getElem?_set_self (by rw [hl]; exact hl')] at h3
    cases h1; cases h3
    exact .inr ⟨h2, rfl⟩
  · rw [List.getElem?_set_ne (Ne.symm hj)] at h1 h3
    exact .inl ⟨j, u, h1, h2, h3⟩
/-- what a slot holds alone is there -/
theorem Rel.there (R : Rel C H μ σ ρ S) {a : Addr} (h : Own σ ρ a) : ∃ o, H a = some o ∧ isT o = false := by
  obtain ⟨i, t, h1, h2, h3⟩ := h
  obtain ⟨v, e, rt⟩ := R.at_ i t h1
  rw [h3] at e; cases e
  cases t with
  | im d => cases h2
  | vl ds => obtain ⟨b, ws, e1, e2, _⟩ := rt; cases e1; exact ⟨_, e2, rfl⟩
  | vd ds => obtain ⟨b, ws, e1, e2, _⟩ := rt; cases e1; exact ⟨_, e2, rfl⟩
/-- a new value is stored to a slot -/
theorem store_slot {v : V} {t : T} {i : Nat} {H0 : Hp} {μ0 : List Addr} (R0 : Rel C H0 μ0 σ ρ S') (e : Ext C no H0 μ0 H μ) (R : Rel C H μ σ ρ S) (rt : RT C H μ v t) (f : Fresh H0 v t) :
    Rel C H μ (σ.set i (some v)) (ρ.set i (some t)) S ∧ Sub H0 (Own σ ρ) (Own (σ.set i (some v)) (ρ.set i (some t))) := by
  refine ⟨R.set rt fun a o ea ow => ?_, fun a h => ?_⟩
  · obtain ⟨a', e1, e2⟩ := f o
    rw [ea] at e1; cases e1
    obtain ⟨x, hx, tx⟩ := R0.there ow
    rw [e2 x hx] at tx; cases tx
  · rcases own_set h R.len with z | ⟨o, z⟩
    · exact .inl z
    · obtain ⟨a', e1, e2⟩ := f o
      rw [z] at e1; cases e1
      exact .inr e2
def setM (i : Nat) (m : M) : MS := bindS m fun t ρ S => .ok (.nx, ρ.set i (some t)) S
theorem rd_set {i : Nat} {m : M} {D : Ends} {σ : St} {H : Hp} (q : tS C W (setM i m) D σ H) : tAsg (tD C W false m) (gName i) D σ H := by
  obtain ⟨ρ, μ, S, R, p⟩ := q
  refine readS R p fun t S1 v H1 μ1 e1 rt f R1 p1 p0 => ?_
  obtain ⟨R2, sub⟩ := store_slot (i := i) R e1 R1 rt (f rfl)
  exact p0 _ H1 μ1 (own_ext e1) R2 sub
theorem ds_set {i : Nat} {x : Str} {e : Expr} {m : M} {pos pos' : Pos} (hN : X.N.Nodup) (hi : X.N[i]? = some x) (hx : Loc X.env.scope x) (he : DE X C W false e m) (hs : swapsWith e (some (.Name x pos')) pos.line X.env = pure false)
    (hf : X.fn x = true ∨ X.env.scope.names.lookup x = some .local) : DS X C W (.Assign [.Name x pos'] e pos) (setM i m) :=
  impS (ps_set hN hi hx he hs hf) fun D σ H q => rd_set q
end
end DL

/-! The data layer: loops. -/
namespace DL
open PySem PySem.Spec L2

/-! ### what is walked -/
/-- the items as they stand -/
abbrev Get := Ev → Sto → Option (List D)
/-- J walks what get tells while Inv stands -/
def PO (o : Bool) (σ : St) (ρ : Ev) (a : Addr) : Prop := o = true ∧ Own σ ρ a
structure Src (C : Cn) (o : Bool) (J : It) (get : Get) (I : Hp → List Addr → St → Ev → Prop) : Prop where
  step : ∀ H μ σ ρ H' μ' σ' ρ' S S', I H μ σ ρ → Rel C H μ σ ρ S → Ext C (PO o σ ρ) H μ H' μ' → Rel C H' μ' σ' ρ' S' → Sub H (Own σ ρ) (Own σ' ρ') → I H' μ' σ' ρ'
  item : ∀ H μ σ ρ S ds i d, I H μ σ ρ → Rel C H μ σ ρ S → get ρ S = some ds → ds[i]? = some d → J.go i H ∧ ∀ x H', J.yld i H x H' → Ext C no H μ H' μ ∧ SR C H' μ S ∧ RD C H' μ x d
  done : ∀ H μ σ ρ S ds i, I H μ σ ρ → Rel C H μ σ ρ S → get ρ S = some ds → ds[i]? = none → J.stop i H
def forL (get : Get) (tgt : D → Ev → Option Ev) (body : MS) : Nat → Nat → MS
  | 0, i => fun ρ S => (match get ρ S with
    | none => .stuck
    | some ds => (match ds[i]? with
      | none => .ok (.nx, ρ) S
      | some _ => .stuck))
  | k + 1, i => fun ρ S => (match get ρ S with
    | none => .stuck
    | some ds => (match ds[i]? with
      | none => .ok (.nx, ρ) S
      | some d => (match tgt d ρ with
        | none => .stuck
        | some ρ1 => (match body ρ1 S with
          | .ok (.nx, ρ2) S2 => forL get tgt body k (i + 1) ρ2 S2
          | .ok (.ct, ρ2) S2 => forL get tgt body k (i + 1) ρ2 S2
          | .ok (.bk, ρ2) S2 => .ok (.nx, ρ2) S2
          | .ok (.rt t, ρ2) S2 => .ok (.rt t, ρ2) S2
          | .exc e S2 => .exc e S2
          | .stuck => .stuck))))
/-- a target of data: what it stores -/
def TgOk (C : Cn) (g : TG) (tgt : D → Ev → Option Ev) : Prop := ∀ H μ σ ρ S x d ρ' (Q : St → Hp → Prop), Rel C H μ σ ρ S → RD C H μ x d → tgt d ρ = some ρ' →
  (∀ σ', Rel C H μ σ' ρ' S → (∀ a, Own σ' ρ' a → Own σ ρ a) → Q σ' H) → g x σ H Q
section
variable {C : Cn} {W : XK} {X : Cx} {H H' : Hp} {μ μ' : List Addr} {σ σ' : St} {ρ ρ' : Ev} {S S' : Sto} {D : Ends} {P P' : Addr → Prop}
theorem for_core {J : It} {get : Get} {I : Hp → List Addr → St → Ev → Prop} {g : TG} {tgt : DL.D → Ev → Option Ev} {body : MS} (src : Src C true J get I) (tg : TgOk C g tgt) {k : Nat} (R : Rel C H μ σ ρ S) (i0 : I H μ σ ρ)
    (p : PostS C W (Own σ ρ) H μ D (forL get tgt body k 0 ρ S)) :
    ∃ Wv : Nat → Nat → St → Hp → Prop, (∃ m, Wv 0 m σ H) ∧ ∀ i m σ H, Wv i m σ H →
      (J.stop i H ∧ D.nx σ H) ∨ (J.go i H ∧ ∃ N : St → Hp → Prop, (∀ σ' H', N σ' H' → ∃ m', m' < m ∧ Wv (i + 1) m' σ' H') ∧ ∀ x H', J.yld i H x H' → g x σ H' fun σ2 H2 => (tS C W body) { D with nx := N, ct := N, bk := D.nx } σ2 H2) := by
  refine ⟨fun i m σ H => ∃ ρ μ S, Rel C H μ σ ρ S ∧ I H μ σ ρ ∧ PostS C W (Own σ ρ) H μ D (forL get tgt body m i ρ S), ⟨k, ρ, μ, S, R, i0, p⟩, ?_⟩
  rintro i m σ H ⟨ρ, μ, S, R, iv, p⟩
  have stop : ∀ ds, get ρ S = some ds → ds[i]? = none → PostS C W (Own σ ρ) H μ D (.ok (.nx, ρ) S) → J.stop i H ∧ D.nx σ H := fun ds e1 e2 p =>
    ⟨src.done H μ σ ρ S ds i iv R e1 e2, p σ H μ Ext.refl R fun a h => .inl h⟩
  cases m with
  | zero =>
    unfold forL at p
    cases e1 : get ρ S with
    | none => rw [e1] at p; exact p.elim
    | some ds =>
      rw [e1] at p
      dsimp only at p
      cases e2 : ds[i]? with
      | none => rw [e2] at p; exact .inl (stop ds e1 e2 p)
      | some d => rw [e2] at p; exact p.elim
  | succ m =>
    unfold forL at p
    cases e1 : get ρ S with
    | none => rw [e1] at p; exact p.elim
    | some ds =>
      rw [e1] at p
      dsimp only at p
      cases e2 : ds[i]? with
      | none => rw [e2] at p; exact .inl (stop ds e1 e2 p)
      | some d =>
        rw [e2] at p
        dsimp only at p
        cases e3 : tgt d ρ with
        | none => rw [e3] at p; exact p.elim
        | some ρ1 =>
          rw [e3] at p
          dsimp only at p
          obtain ⟨go, yl⟩ := src.item H μ σ ρ S ds i d iv R e1 e2
          refine .inr ⟨go, fun σ' H' => ∃ ρ2 μ2 S2, Rel C H' μ2 σ' ρ2 S2 ∧ I H' μ2 σ' ρ2 ∧ PostS C W (Own σ' ρ2) H' μ2 D (forL get tgt body m (i + 1) ρ2 S2), fun σ' H' h => ⟨m, Nat.lt_succ_self m, h⟩, fun x H' y => ?_⟩
          obtain ⟨x1, s1, rd⟩ := yl x H' y
          have R1 := R.ext x1 s1
          refine tg H' μ σ ρ S x d ρ1 _ R1 rd e3 fun σ1 R2 sub1 => ?_
          refine ⟨ρ1, μ, S, R2, ?_⟩
          have subs : Sub H (Own σ ρ) (Own σ1 ρ1) := fun a h => .inl (sub1 a h)
          have p1 := PostS.ext (own_ext (P := Own σ ρ) x1) subs p
          cases e4 : body ρ1 S with
          | ok a S2 =>
            obtain ⟨f, ρ2⟩ := a
            have again : PostS C W (Own σ1 ρ1) H' μ D (forL get tgt body m (i + 1) ρ2 S2) → ∀ σ2 H2 μ2, Ext C (Own σ1 ρ1) H' μ H2 μ2 → Rel C H2 μ2 σ2 ρ2 S2 → Sub H' (Own σ1 ρ1) (Own σ2 ρ2) →
                ∃ ρ2 μ2 S2, Rel C H2 μ2 σ2 ρ2 S2 ∧ I H2 μ2 σ2 ρ2 ∧ PostS C W (Own σ2 ρ2) H2 μ2 D (forL get tgt body m (i + 1) ρ2 S2) := fun p2 σ2 H2 μ2 x2 R3 s2 => by
              have xx : Ext C (Own σ ρ) H μ H2 μ2 := (own_ext (P := Own σ ρ) x1).trans x2 fun a h => (subs a h)
              exact ⟨ρ2, μ2, S2, R3, src.step H μ σ ρ H2 μ2 σ2 ρ2 S S2 iv R (xx.mono fun _ z => ⟨rfl, z⟩) R3 (Sub.trans (own_ext (P := Own σ ρ) x1) subs s2), PostS.ext x2 s2 p2⟩
            rw [e4] at p1
            cases f with
            | nx => exact again p1
            | ct => exact again p1
            | bk => exact p1
            | rt t => exact p1
          | exc x2 S2 => rw [e4] at p1; exact p1
          | stuck => rw [e4] at p1; exact p1
/-! ### sources -/
def constG (ds : List DL.D) : Get := fun _ _ => some ds
def objG (n : Nat) : Get := fun _ S => match S[n]? with
  | some (.lst ds) => some ds
  | _ => none
theorem src_tup {o : Bool} {a : Addr} {ds : List DL.D} : Src C o (Itt C.K a) (constG ds) (fun H μ σ ρ => ∃ vs, SqT C.K H a vs ∧ RDs C H μ vs ds) where
  step := fun H μ σ ρ H' μ' σ' ρ' S S' ⟨vs, h, r⟩ R x R' s => ⟨vs, x.tups _ _ h, r.ext x⟩
  item := fun H μ σ ρ S ds' i d ⟨vs, h, r⟩ R e1 e2 => by
    cases e1
    obtain ⟨v, e3, rd⟩ := r.get e2
    refine ⟨⟨vs, v, h, e3⟩, fun x H' ⟨eH, y⟩ => ?_⟩
    subst eH
    have := y vs h
    rw [e3] at this; cases this
    exact ⟨Ext.refl, R.sr, rd⟩
  done := fun H μ σ ρ S ds' i ⟨vs, h, r⟩ R e1 e2 => by
    cases e1
    exact ⟨vs, h, by rw [r.length]; exact List.getElem?_eq_none_iff.mp e2⟩
theorem src_lst {o : Bool} {a : Addr} {ds : List DL.D} : Src C o (Itl C.K a) (constG ds) (fun H μ σ ρ => ∃ vs, H a = some (.lst vs) ∧ RDs C H μ vs ds ∧ a ∉ μ ∧ (o = true → ¬ Own σ ρ a)) where
  step := fun H μ σ ρ H' μ' σ' ρ' S S' ⟨vs, h, r, n1, n2⟩ R x R' s => ⟨vs, x.keep a _ h rfl n1 fun z => n2 z.1 z.2, r.ext x, x.notin h rfl n1 fun z => n2 z.1 z.2, fun eo z => by
    rcases s a z with q | q
    · exact n2 eo q
    · exact Bool.noConfusion (q _ h)⟩
  item := fun H μ σ ρ S ds' i d ⟨vs, h, r, _, _⟩ R e1 e2 => by
    cases e1
    obtain ⟨v, e3, rd⟩ := r.get e2
    refine ⟨⟨vs, v, .of h, e3⟩, fun x H' ⟨eH, y⟩ => ?_⟩
    subst eH
    have := y vs (.of h)
    rw [e3] at this; cases this
    exact ⟨Ext.refl, R.sr, rd⟩
  done := fun H μ σ ρ S ds' i ⟨vs, h, r, _, _⟩ R e1 e2 => by
    cases e1
    exact ⟨vs, .of h, by rw [r.length]; exact List.getElem?_eq_none_iff.mp e2⟩
theorem src_kl {o : Bool} {a : Addr} {ds : List DL.D} : Src C o (Itl C.K a) (constG ds) (fun H μ σ ρ => ∃ vs, RoL C.K H a vs ∧ RDs C H μ vs ds) where
  step := fun H μ σ ρ H' μ' σ' ρ' S S' ⟨vs, h, r⟩ R x R' s => ⟨vs, x.ros _ _ h, r.ext x⟩
  item := fun H μ σ ρ S ds' i d ⟨vs, h, r⟩ R e1 e2 => by
    cases e1
    obtain ⟨v, e3, rd⟩ := r.get e2
    refine ⟨⟨vs, v, h.seq, e3⟩, fun x H' ⟨eH, y⟩ => ?_⟩
    subst eH
    have := y vs h.seq
    rw [e3] at this; cases this
    exact ⟨Ext.refl, R.sr, rd⟩
  done := fun H μ σ ρ S ds' i ⟨vs, h, r⟩ R e1 e2 => by
    cases e1
    exact ⟨vs, h.seq, by rw [r.length]; exact List.getElem?_eq_none_iff.mp e2⟩
theorem objG_ok {n : Nat} {a : Addr} {ds : List DL.D} (s : SR C H μ S) (h : μ[n]? = some a) (e : objG n ρ S = some ds) : ∃ vs, H a = some (.lst vs) ∧ RDs C H μ vs ds := by
  unfold objG at e
  split at e
  · rename_i ds' e1
    cases e
    obtain ⟨vs, h1, r, _⟩ := s.ok _ _ _ h e1
    exact ⟨vs, h1, r⟩
  · cases e
theorem src_obj {o : Bool} {a : Addr} {n : Nat} : Src C o (Itl C.K a) (objG n) (fun H μ σ ρ => μ[n]? = some a) where
  step := fun H μ σ ρ H' μ' σ' ρ' S S' h R x R' s => x.at h
  item := fun H μ σ ρ S ds' i d h R e1 e2 => by
    obtain ⟨vs, h1, r⟩ := objG_ok R.sr h e1
    obtain ⟨v, e3, rd⟩ := r.get e2
    refine ⟨⟨vs, v, .of h1, e3⟩, fun x H' ⟨eH, y⟩ => ?_⟩
    subst eH
    have := y vs (.of h1)
    rw [e3] at this; cases this
    exact ⟨Ext.refl, R.sr, rd⟩
  done := fun H μ σ ρ S ds' i h R e1 e2 => by
    obtain ⟨vs, h1, r⟩ := objG_ok R.sr h e1
    exact ⟨vs, .of h1, by rw [r.length]; exact List.getElem?_eq_none_iff.mp e2⟩
def rangeD (lo : Int) (n : Nat) : List DL.D := (List.range n).map fun i => .int (lo + (i : Nat))
theorem src_range {o : Bool} {lo : Int} {n : Nat} : Src C o (Itr lo n) (constG (rangeD lo n)) (fun _ _ _ _ => True) where
  step := fun _ _ _ _ _ _ _ _ _ _ _ _ _ _ _ => trivial
  item := fun H μ σ ρ S ds' i d _ R e1 e2 => by
    cases e1
    unfold rangeD at e2
    rw [List.getElem?_map] at e2
    have hi : i < n := by
      cases q : (List.range n)[i]? with
      | none => rw [q] at e2; cases e2
      | some j => have := (List.getElem?_eq_some_iff.mp q).1; simpa using this
    rw [List.getElem?_range hi] at e2
    cases e2
    refine ⟨hi, fun x H' ⟨eH, y⟩ => ?_⟩
    subst eH; subst y
    exact ⟨Ext.refl, R.sr, .int _⟩
  done := fun H μ σ ρ S ds' i _ R e1 e2 => by
    cases e1
    have := List.getElem?_eq_none_iff.mp e2
    unfold rangeD at this
    show n ≤ i
    simpa using this
end
/-- a list or tuple that is walked -/
def iSeq (K : PySem.W.Frag) (tl : TE) : TI := fun σ H R => tl σ H fun x H1 => ∃ a, x = .ref a ∧ (((∃ xs, SqL K H1 a xs) ∧ R (Itl K a) H1) ∨ ((∃ xs, SqT K H1 a xs) ∧ R (Itt K a) H1))
theorem pi_seq {X : Cx} {tg : Expr} {l : Expr} {tl : TE} (hl : PE X l tl) : PI X tg l (iSeq X.K tl) := by
  refine ⟨fun pins s σ H R I h => ?_⟩
  refine thn (hl.run pins s σ H _ I h) fun v s1 ⟨x, H1, I1, r1, q1⟩ => ?_
  obtain ⟨a, e, q⟩ := q1
  subst e
  cases r1
  rcases q with ⟨⟨xs, hq⟩, q⟩ | ⟨⟨xs, hq⟩, q⟩
  · obtain ⟨its, rv, p, hz⟩ := I1.list hq
    refine wpAny_pyIter_list p.isList ?_
    refine ⟨s1.heap.objs.size, [s1.heap.objs.size], _, _, H1, rfl, I1.kept (t' := s1.toks) fun b o e => Heap.get?_push_of_some _ e, turn_list a _, ⟨_, Heap.get?_push_size _ rfl, rfl, rfl⟩, fun b hb => ?_, q⟩
    have e : b = s1.heap.objs.size := by simpa using hb
    subst e
    exact I1.fpOk (Nat.le_refl _) (I1.hok.fresh (Nat.le_refl _))
  · obtain ⟨its, rv, p, hz⟩ := I1.tuple hq
    refine wpAny_pyIter_tuple (show s1.heap.IsTuple a its.toArray from p) ?_
    refine ⟨s1.heap.objs.size, [s1.heap.objs.size], _, _, H1, rfl, I1.kept (t' := s1.toks) fun b o e => Heap.get?_push_of_some _ e, turn_tuple a _, ⟨_, Heap.get?_push_size _ rfl, rfl, rfl⟩, fun b hb => ?_, q⟩
    have e : b = s1.heap.objs.size := by simpa using hb
    subst e
    exact I1.fpOk (Nat.le_refl _) (I1.hok.fresh (Nat.le_refl _))
theorem argsM_len : ∀ {ms : List M} {ρ : Ev} {S : Sto} {ts : List T} {S1 : Sto}, argsM ms ρ S = .ok ts S1 → ts.length = ms.length
  | [], ρ, S, ts, S1, h => by unfold argsM at h; cases h; rfl
  | m :: ms, ρ, S, ts, S1, h => by
    unfold argsM bind at h
    cases e : m ρ S with
    | ok t S2 =>
      rw [e] at h
      dsimp only [bind] at h
      cases e2 : argsM ms ρ S2 with
      | ok us S3 =>
        rw [e2] at h
        cases h
        exact congrArg (· + 1) (argsM_len e2)
      | exc _ _ => rw [e2] at h; cases h
      | stuck => rw [e2] at h; cases h
    | exc _ _ => rw [e] at h; cases h
    | stuck => rw [e] at h; cases h
/-! over a range -/
section
variable {C : Cn} {W : XK} {X : Cx}
/-! ### while -/
def whileM (c : M) (body : MS) : Nat → MS
  | 0 => fun _ _ => .stuck
  | k + 1 => fun ρ S => (match c ρ S with
    | .ok (.im (.bl true)) S1 => (match body ρ S1 with
      | .ok (.nx, ρ2) S2 => whileM c body k ρ2 S2
      | .ok (.ct, ρ2) S2 => whileM c body k ρ2 S2
      | .ok (.bk, ρ2) S2 => .ok (.nx, ρ2) S2
      | .ok (.rt t, ρ2) S2 => .ok (.rt t, ρ2) S2
      | .exc e S2 => .exc e S2
      | .stuck => .stuck)
    | .ok (.im (.bl false)) S1 => .ok (.nx, ρ) S1
    | .ok _ _ => .stuck
    | .exc e S1 => .exc e S1
    | .stuck => .stuck)
theorem rd_while {c : M} {body : MS} {k : Nat} {D : Ends} {σ : St} {H : Hp} (q : tS C W (whileM c body k) D σ H) : tWhile (tDT C W c) (tS C W body) D σ H := by
  refine ⟨fun m σ H => tS C W (whileM c body m) D σ H, ⟨k, q⟩, ?_⟩
  rintro m σ H ⟨ρ, μ, S, R, p⟩
  cases m with
  | zero => exact p.elim
  | succ m =>
    unfold whileM at p
    refine ⟨ρ, μ, S, R, ?_⟩
    cases e : c ρ S with
    | ok t S1 =>
      rw [e] at p
      by_cases ht : ∃ b, t = .im (.bl b)
      · obtain ⟨b, rfl⟩ := ht
        cases b with
        | true =>
          dsimp only at p
          intro H1 μ1 e1 s1
          rw [if_pos rfl]
          refine ⟨fun σ' H' => tS C W (whileM c body m) D σ' H', fun σ' H' h => ⟨m, Nat.lt_succ_self m, h⟩, ρ, μ1, S1, R.ext e1 s1, ?_⟩
          cases e4 : body ρ S1 with
          | ok a S2 =>
            obtain ⟨f, ρ2⟩ := a
            rw [e4] at p
            have p := PostS.ext (own_ext (P := Own σ ρ) e1) (fun _ z => .inl z) p
            cases f with
            | nx => exact fun σ2 H2 μ2 x2 R3 s2 => ⟨ρ2, μ2, S2, R3, PostS.ext x2 s2 p⟩
            | ct => exact fun σ2 H2 μ2 x2 R3 s2 => ⟨ρ2, μ2, S2, R3, PostS.ext x2 s2 p⟩
            | bk => exact p
            | rt t => exact p
          | exc x2 S2 => rw [e4] at p; exact PostS.ext (own_ext (P := Own σ ρ) e1) (fun _ z => .inl z) p
          | stuck => rw [e4] at p; exact p
        | false =>
          dsimp only at p
          intro H1 μ1 e1 s1
          rw [if_neg (by decide)]
          exact p σ H1 μ1 (own_ext e1) (R.ext e1 s1) fun a h => .inl h
      · exfalso
        cases t with
        | im d => cases d with
          | bl b => exact ht ⟨b, rfl⟩
          | _ => exact p
        | _ => exact p
    | exc x S1 =>
      rw [e] at p
      exact fun cv dx H2 μ2 e2 s2 xr => p cv dx H2 μ2 (own_ext e2) s2 xr
    | stuck => rw [e] at p; exact p
theorem ds_while {c : Expr} {body : List Stmt} {m : M} {mb : MS} {k : Nat} {pos : Pos} (hp : PassesOwn (model X.prog X.w) X.A X.env X.xe) (hc : DT X C W c m) (hb : DSs X C W body mb) : DS X C W (.While c body [] pos) (whileM m mb k) :=
  impS (ps_while hp hc hb) fun D σ H q => rd_while q
end
end DL

/-! The data layer: targets, stores to objects, attributes. -/
namespace DL
open PySem PySem.Spec L2

abbrev Tgt := DL.D → Ev → Option Ev
def tgName (i : Nat) : Tgt := fun d ρ => some (ρ.set i (some (.im d)))
def tgEach : List Tgt → List DL.D → Ev → Option Ev
  | [], [], ρ => some ρ
  | t :: ts, d :: ds, ρ => (match t d ρ with
    | none => none
    | some ρ1 => tgEach ts ds ρ1)
  | _, _, _ => none
def tgTup (ts : List Tgt) : Tgt := fun d ρ => match d with
  | .tup ds => if ds.length = ts.length then tgEach ts ds ρ else none
  | _ => none
def TgsOk (C : Cn) (g : TGs) (ts : List Tgt) : Prop := ∀ H μ σ ρ S xs ds ρ' (Q : St → Hp → Prop), Rel C H μ σ ρ S → RDs C H μ xs ds → tgEach ts ds ρ = some ρ' →
  (∀ σ', Rel C H μ σ' ρ' S → (∀ a, Own σ' ρ' a → Own σ ρ a) → Q σ' H) → g xs σ H Q
section
variable {C : Cn} {W : XK} {X : Cx} {H H' : Hp} {μ μ' : List Addr} {σ σ' : St} {ρ ρ' : Ev} {S S' : Sto} {D : Ends} {P P' : Addr → Prop}
theorem tg_name {i : Nat} : TgOk C (gName i) (tgName i) := fun H μ σ ρ S x d ρ' Q R rd e q => by
  cases e
  refine q _ (R.set (show RT C H μ x (.im d) from rd) fun a o _ => Bool.noConfusion o) fun a h => ?_
  rcases own_set h R.len with z | ⟨z, _⟩
  · exact z
  · exact Bool.noConfusion z
theorem tgs_nil : TgsOk C gNil [] := fun H μ σ ρ S xs ds ρ' Q R rd e q => by
  cases rd with
  | nil => cases e; exact ⟨rfl, q σ R fun a h => h⟩
  | cons _ _ => cases e
theorem tgs_cons {g : TG} {gs : TGs} {t : Tgt} {ts : List Tgt} (h : TgOk C g t) (hs : TgsOk C gs ts) : TgsOk C (gCons g gs) (t :: ts) := fun H μ σ ρ S xs ds ρ' Q R rd e q => by
  cases rd with
  | nil => cases e
  | @cons v vs d ds r rs =>
    unfold tgEach at e
    cases e1 : t d ρ with
    | none => rw [e1] at e; cases e
    | some ρ1 =>
      rw [e1] at e
      refine ⟨v, vs, rfl, h H μ σ ρ S v d ρ1 _ R r e1 fun σ1 R1 s1 => ?_⟩
      exact hs H μ σ1 ρ1 S vs ds ρ' Q R1 rs e fun σ2 R2 s2 => q σ2 R2 fun a z => s1 a (s2 a z)
theorem tg_tup {gs : TGs} {ts : List Tgt} {n : Nat} (hn : n = ts.length) (h : TgsOk C gs ts) : TgOk C (gTup C.K n gs) (tgTup ts) := fun H μ σ ρ S x d ρ' Q R rd e q => by
  unfold tgTup at e
  split at e
  · rename_i ds
    split at e
    · rename_i hl
      cases rd with
      | @tup a vs _ hq r z => exact ⟨a, vs, rfl, hq, by rw [r.length, hl, hn], h H μ σ ρ S vs ds ρ' Q R r e q⟩
    · cases e
  · cases e
/-- a target that takes data -/
def asgM (tgt : Tgt) (m : M) : MS := bindS m fun t ρ S => match t with
  | .im d => (match tgt d ρ with
    | some ρ' => .ok (.nx, ρ') S
    | none => .stuck)
  | _ => .stuck
theorem rd_asg {b : Bool} {g : TG} {tgt : Tgt} {m : M} (tg : TgOk C g tgt) (q : tS C W (asgM tgt m) D σ H) : tAsg (tD C W b m) g D σ H := by
  obtain ⟨ρ, μ, S, R, p⟩ := q
  refine readS R p fun t S1 v H1 μ1 e1 rt f R1 p1 p0 => ?_
  cases t with
  | im d =>
    dsimp only at p0
    cases e2 : tgt d ρ with
    | none => rw [e2] at p0; exact p0.elim
    | some ρ' =>
      rw [e2] at p0
      exact tg H1 μ1 σ ρ S1 v d ρ' _ R1 rt e2 fun σ' R' s => p0 σ' H1 μ1 (own_ext e1) R' fun a z => .inl (s a z)
  | _ => exact p1.elim
theorem ds_asg {tg e : Expr} {b : Bool} {m : M} {g : TG} {tgt : Tgt} {pos : Pos} (he : DE X C W b e m) (hg : PG X tg g) (ht : TgOk C g tgt) (hs : swapsWithSole [tg] e pos.line X.env = pure false) (hw : swappedStores [tg] e X.env = pure none)
    (h1 : (assignEach [tg] X.env).map (·.2) = [assign tg X.env]) : DS X C W (.Assign [tg] e pos) (asgM tgt m) := impS (ps_asg he hg hs hw h1) fun D σ H q => rd_asg ht q
/-! ### a, b = x, y -/
theorem Paired.vals2 {F : V → T → Prop} {vs : List V} {t u : T} (h : Paired F vs [t, u]) : ∃ v w, vs = [v, w] ∧ F v t ∧ F w u := by
  cases h with
  | cons r s => cases s with
    | cons r2 s2 => cases s2; exact ⟨_, _, rfl, r, r2⟩
theorem Paired.vals3 {F : V → T → Prop} {vs : List V} {t u w : T} (h : Paired F vs [t, u, w]) : ∃ v v2 v3, vs = [v, v2, v3] ∧ F v t ∧ F v2 u ∧ F v3 w := by
  cases h with
  | cons r s =>
    obtain ⟨v2, v3, rfl, r2, r3⟩ := Paired.vals2 s
    exact ⟨_, v2, v3, rfl, r, r2, r3⟩
/-- a value that no slot holds is stored to a slot -/
theorem store1 {v : V} {t : T} {i : Nat} (R : Rel C H μ σ ρ S) (rt : RT C H μ v t) (f : t.own = true → ∀ a, v = .ref a → ¬ Own σ ρ a) : Rel C H μ (σ.set i (some v)) (ρ.set i (some t)) S := R.set rt fun a o ea => f o a ea
def parM (i j : Nat) (m : MA) : MS := fun ρ S => match m ρ S with
  | .ok [t, u] S1 => .ok (.nx, (ρ.set i (some t)).set j (some u)) S1
  | .ok _ _ => .stuck
  | .exc e S1 => .exc e S1
  | .stuck => .stuck
def par3M (i j l : Nat) (m : MA) : MS := fun ρ S => match m ρ S with
  | .ok [t, u, w] S1 => .ok (.nx, ((ρ.set i (some t)).set j (some u)).set l (some w)) S1
  | .ok _ _ => .stuck
  | .exc e S1 => .exc e S1
  | .stuck => .stuck
theorem fresh_no {H0 : Hp} {μ0 : List Addr} {S0 : Sto} (R0 : Rel C H0 μ0 σ ρ S0) {v : V} {t : T} (f : Fresh H0 v t) : t.own = true → ∀ a, v = .ref a → ¬ Own σ ρ a := fun o a ea ow => by
  obtain ⟨a', e1, e2⟩ := f o
  rw [ea] at e1; cases e1
  obtain ⟨x, hx, tx⟩ := R0.there ow
  rw [e2 x hx] at tx; cases tx
theorem fresh_at {v : V} {t : T} {a : Addr} (f : Fresh H v t) (o : t.own = true) (e : v = .ref a) : Nw H a := by
  obtain ⟨a', e1, e2⟩ := f o
  rw [e] at e1; cases e1
  exact e2
theorem rd_par {i j : Nat} {ms : MA} (q : tS C W (parM i j ms) D σ H) : tPar i j (tDA C W ms) D σ H := by
  obtain ⟨ρ, μ, S, R, p⟩ := q
  refine ⟨ρ, μ, S, R, ?_⟩
  unfold parM at p
  cases e : ms ρ S with
  | ok ts S1 =>
    rw [e] at p
    intro vs H1 μ1 e1 A s1
    split at p
    · rename_i t u S2 e2
      cases e2
      obtain ⟨v, w, rfl, r1, r2⟩ := Paired.vals2 A.rt
      obtain ⟨v', w', ev, f1, f2⟩ := Paired.vals2 A.fr
      cases ev
      refine ⟨v, w, rfl, ?_⟩
      have R1 := R.ext e1 s1
      have R2 := store1 (i := i) R1 r1 (fresh_no R f1)
      have R3 := store1 (i := j) R2 r2 fun o a ea ow => by
        rcases own_set ow R1.len with z | ⟨o1, z⟩
        · exact fresh_no R f2 o a ea z
        · have := A.apart 0 1 t u a rfl o1 rfl o (by rw [z]; rfl) (by rw [ea]; rfl)
          cases this
      refine p _ H1 μ1 (own_ext e1) R3 fun a h => ?_
      rcases own_set h R2.len with z | ⟨o1, z⟩
      · rcases own_set z R1.len with z | ⟨o1, z⟩
        · exact .inl z
        · exact .inr (fresh_at f1 o1 z)
      · exact .inr (fresh_at f2 o1 z)
    · exact p.elim
    · rename_i e2; cases e2
    · rename_i e2; cases e2
  | exc x S1 => rw [e] at p; exact fun cv dx H2 μ2 e2 s2 xr => p cv dx H2 μ2 (own_ext e2) s2 xr
  | stuck => rw [e] at p; exact p
theorem rd_par3 {i j l : Nat} {ms : MA} (q : tS C W (par3M i j l ms) D σ H) : tPar3 i j l (tDA C W ms) D σ H := by
  obtain ⟨ρ, μ, S, R, p⟩ := q
  refine ⟨ρ, μ, S, R, ?_⟩
  unfold par3M at p
  cases e : ms ρ S with
  | ok ts S1 =>
    rw [e] at p
    intro vs H1 μ1 e1 A s1
    split at p
    · rename_i t u w S2 e2
      cases e2
      obtain ⟨v, v2, v3, rfl, r1, r2, r3⟩ := Paired.vals3 A.rt
      obtain ⟨v', v2', v3', ev, f1, f2, f3⟩ := Paired.vals3 A.fr
      cases ev
      refine ⟨v, v2, v3, rfl, ?_⟩
      have R1 := R.ext e1 s1
      have R2 := store1 (i := i) R1 r1 (fresh_no R f1)
      have R3 := store1 (i := j) R2 r2 fun o a ea ow => by
        rcases own_set ow R1.len with z | ⟨o1, z⟩
        · exact fresh_no R f2 o a ea z
        · have := A.apart 0 1 t u a rfl o1 rfl o (by rw [z]; rfl) (by rw [ea]; rfl)
          cases this
      have R4 := store1 (i := l) R3 r3 fun o a ea ow => by
        rcases own_set ow R2.len with z | ⟨o1, z⟩
        · rcases own_set z R1.len with z | ⟨o1, z⟩
          · exact fresh_no R f3 o a ea z
          · have := A.apart 0 2 t w a rfl o1 rfl o (by rw [z]; rfl) (by rw [ea]; rfl)
            cases this
        · have := A.apart 1 2 u w a rfl o1 rfl o (by rw [z]; rfl) (by rw [ea]; rfl)
          cases this
      refine p _ H1 μ1 (own_ext e1) R4 fun a h => ?_
      rcases own_set h R3.len with z | ⟨o1, z⟩
      · rcases own_set z R2.len with z | ⟨o1, z⟩
        · rcases own_set z R1.len with z | ⟨o1, z⟩
          · exact .inl z
          · exact .inr (fresh_at f1 o1 z)
        · exact .inr (fresh_at f2 o1 z)
      · exact .inr (fresh_at f3 o1 z)
    · exact p.elim
    · rename_i e2; cases e2
    · rename_i e2; cases e2
  | exc x S1 => rw [e] at p; exact fun cv dx H2 μ2 e2 s2 xr => p cv dx H2 μ2 (own_ext e2) s2 xr
  | stuck => rw [e] at p; exact p
/-! ### o[i] = v -/
theorem PSet_or {t t' : TSet} (h : PSet X t) (h' : PSet X t') : PSet X fun o i v H Q => t o i v H Q ∨ t' o i v H Q := by
  intro pins s σ H o i v ov iv u Q I r1 r2 r3 q
  rcases q with q | q
  · exact h pins s σ H o i v ov iv u Q I r1 r2 r3 q
  · exact h' pins s σ H o i v ov iv u Q I r1 r2 r3 q
def rSetM : TSet := fun o i v H Q => rSetL o i v H Q ∨ rSetD o i v H Q
theorem set_M (hu : X.A.units + 1 < cLine) : PSet X rSetM := PSet_or set_list (set_dict hu)
/-- what stands behind a store to a place -/
def putO (o : MO) (k : T) (d : DL.D) : Option MO := match o with
  | .lst ds => (match k with
    | .im (.int i) => (match ixN ds.length i with
      | some j => some (.lst (ds.set j d))
      | none => none)
    | _ => none)
  | .dic kvs => (match keyD k with
    | some k => if kvs.length < line then some (.dic (putD kvs k d)) else none
    | none => none)
  | _ => none
/-- value, object, index -/
def putM (m mo mi : M) : MS := bindS m fun t => bindS mo fun u => bindS mi fun k ρ S => match t with
  | .im d => (match u with
    | .im (.ref n) => (match S[n]? with
      | some o => (match putO o k d with
        | some o' => .ok (.nx, ρ) (S.set n o')
        | none => .stuck)
      | none => .stuck)
    | _ => .stuck)
  | _ => .stuck
theorem putO_ok {Q : Hp → Prop} {n : Nat} {a : Addr} {o o' : MO} {x v : V} {k : T} {d : DL.D} (s : SR C H μ S) (hn : μ[n]? = some a) (hS : S[n]? = some o) (rk : RT C H μ x k) (rd : RD C H μ v d) (e : putO o k d = some o')
    (q : ∀ u, Ext C no H μ (upd H a u) μ → SR C (upd H a u) μ (S.set n o') → Q (upd H a u)) : rSetM (.ref a) x v H Q := by
  have hm : a ∈ μ := List.mem_of_getElem? hn
  have mo := s.ok n a o hn hS
  unfold putO at e
  split at e
  · rename_i ds
    split at e
    · rename_i i
      split at e
      · rename_i j hj
        cases e
        cases rk
        obtain ⟨vs, h, r, z⟩ := mo
        refine .inl ⟨a, vs, i, j, rfl, rfl, h, by rw [r.length]; exact hj, ?_⟩
        have x1 : Ext C no H μ (upd H a (.lst (vs.set j v))) μ := Ext.changed (.inl hm) h (MOk.notup (o := .lst ds) ⟨vs, h, r, z⟩) rfl rfl
        exact q _ x1 (s.set hn x1 ⟨vs.set j v, upd_same .., (r.set rd j).ext x1, by rw [List.length_set]; exact z⟩)
      · cases e
    · cases e
  · rename_i kvs
    split at e
    · rename_i key hk
      split at e
      · rename_i hl
        cases e
        obtain ⟨ps, h, r, z, nd⟩ := mo
        have hx := keyD_ok rk hk
        subst hx
        refine .inr ⟨a, _, rfl, .k h (by rw [Paired.len r, line_eq]; exact hl), ?_⟩
        have x1 : Ext C no H μ (upd H a (.dK (putK ps key v))) μ := Ext.changed (.inl hm) h (MOk.notup (o := .dic kvs) ⟨ps, h, r, z, nd⟩) rfl rfl
        exact q _ x1 (s.set hn x1 ⟨_, upd_same .., (KD.put rd r nd).ext x1, Nat.le_trans putD_len hl, putD_nd nd⟩)
      · cases e
    · cases e
  · cases e
theorem rd_put {b b1 b2 : Bool} {m mo mi : M} (q : tS C W (putM m mo mi) D σ H) : tAsg (tD C W b m) (gSub (tD C W b1 mo) (tD C W b2 mi) rSetM) D σ H := by
  obtain ⟨ρ, μ, S, R, p⟩ := q
  refine readS R p fun t S1 v H1 μ1 e1 rt f R1 p1 _ => ?_
  refine readS R1 p1 fun u S2 w H2 μ2 e2 ru _ R2 p2 _ => ?_
  refine readS R2 p2 fun k S3 x H3 μ3 e3 rk _ R3 p3 _ => ?_
  cases t with
  | im d =>
   cases u with
   | im du =>
    cases du with
    | ref n =>
      dsimp only at p3
      cases eS : S3[n]? with
      | none => rw [eS] at p3; exact p3.elim
      | some o =>
        rw [eS] at p3
        dsimp only at p3
        cases eP : putO o k d with
        | none => rw [eP] at p3; exact p3.elim
        | some o' =>
          rw [eP] at p3
          cases ru with
          | @ref _ a hn =>
            refine putO_ok R3.sr (e3.at hn) eS rk ((rt.ext0 e2).ext0 e3) eP fun u x5 s5 => ?_
            exact p3 σ _ μ3 (own_ext x5) (R3.ext x5 s5) fun a h => .inl h
    | _ => exact p3.elim
   | _ => exact p3.elim
  | _ => exact p3.elim
theorem ds_put {o i e : Expr} {b b1 b2 : Bool} {m mo mi : M} {pos pos' : Pos} (hu : X.A.units + 1 < cLine) (he : DE X C W b e m) (ho : DE X C W b1 o mo) (hi : DE X C W b2 i mi)
    (ha : ∀ v, assign (.Subscript o i pos') X.env v = (do
      let ov ← holding [v] (eval o X.env)
      let iv ← holding [v, ov] (eval i X.env)
      standAt pos'
      holding [v, ov, iv] (setItem ov iv v)
      release [v, ov, iv] [])) (hs : swapsWithSole [.Subscript o i pos'] e pos.line X.env = pure false) (hw : swappedStores [.Subscript o i pos'] e X.env = pure none)
    (h1 : (assignEach [.Subscript o i pos'] X.env).map (·.2) = [assign (.Subscript o i pos') X.env]) : DS X C W (.Assign [.Subscript o i pos'] e pos) (putM m mo mi) :=
  impS (ps_asg he (pg_sub ho hi (set_M hu) ha) hs hw h1) fun D σ H q => rd_put q
/-! into what a slot alone holds -/
def putT (t : T) (k : T) (d : DL.D) : Option T := match t with
  | .vl ds => (match k with
    | .im (.int i) => (match ixN ds.length i with
      | some j => some (.vl (ds.set j d))
      | none => none)
    | _ => none)
  | .vd kvs => (match keyD k with
    | some k => if kvs.length < line then some (.vd (putD kvs k d)) else none
    | none => none)
  | _ => none
def putOwnM (i : Nat) (m mi : M) : MS := bindS m fun t ρ S => match ρ[i]? with
  | some (some u) => bindS mi (fun k ρ S => match t with
    | .im d => (match putT u k d with
      | some u' => .ok (.nx, ρ.set i (some u')) S
      | none => .stuck)
    | _ => .stuck) ρ S
  | _ => .stuck
/-- what a slot alone holds changes -/
theorem Rel.change {i : Nat} {t t' : T} {a : Addr} {u : HO} (R : Rel C H μ σ ρ S) (h : ρ[i]? = some (some t)) (o : t.own = true) (hs : σ[i]? = some (some (V.ref a))) (x : Ext C (fun b => b = a) H μ (upd H a u) μ)
    (rt : RT C (upd H a u) μ (.ref a) t') (ha : a ∉ μ) : Rel C (upd H a u) μ σ (ρ.set i (some t')) S ∧ Sub H (Own σ ρ) (Own σ (ρ.set i (some t'))) := by
  have hl := (List.getElem?_eq_some_iff.mp h).1
  have sub : ∀ (j : Nat) (w : T), (ρ.set i (some t'))[j]? = some (some w) → w.own = true → ∀ b, σ[j]? = some (some (V.ref b)) → ∃ w' : T, ρ[j]? = some (some w') ∧ w'.own = true := fun j w h1 h2 b h3 => by
    by_cases hj : j = i
    · subst hj; exact ⟨t, h, o⟩
    · rw [List.getElem?_set_ne (Ne.symm hj)] at h1; exact ⟨w, h1, h2⟩
  refine ⟨⟨R.sr.ext x fun b hb => upd_ne fun z => ha (z ▸ hb), by simp [R.len], fun j w h1 => ?_, fun j k w y b h1 h2 h3 h4 h5 h6 => ?_⟩, fun b ⟨j, w, h1, h2, h3⟩ => ?_⟩
  · by_cases hj : j = i
    · subst hj
      rw [List.getElem?_set_self hl] at h1
      cases h1
      exact ⟨_, hs, rt⟩
    · rw [List.getElem?_set_ne (Ne.symm hj)] at h1
      obtain ⟨v, e1, r1⟩ := R.at_ j w h1
      refine ⟨v, e1, r1.ext x fun o1 b eb z => hj ?_⟩
      subst z; subst eb
      exact R.apart j i w t b h1 o1 h o e1 hs
  · obtain ⟨w', q1, q2⟩ := sub j w h1 h2 b h5
    obtain ⟨y', q3, q4⟩ := sub k y h3 h4 b h6
    exact R.apart j k w' y' b q1 q2 q3 q4 h5 h6
  · obtain ⟨w', q1, q2⟩ := sub j w h1 h2 b h3
    exact .inl ⟨j, w', q1, q2, h3⟩
theorem putT_ok {Q : Hp → Prop} {a : Addr} {u u' : T} {x v : V} {k : T} {d : DL.D} (ru : RT C H μ (.ref a) u) (rk : RT C H μ x k) (rd : RD C H μ v d) (e : putT u k d = some u')
    (q : ∀ o, Ext C (fun b => b = a) H μ (upd H a o) μ → RT C (upd H a o) μ (.ref a) u' → a ∉ μ → Q (upd H a o)) : rSetM (.ref a) x v H Q ∧ u.own = true := by
  unfold putT at e
  split at e
  · rename_i ds
    refine ⟨?_, rfl⟩
    split at e
    · rename_i i
      split at e
      · rename_i j hj
        cases e
        cases rk
        obtain ⟨a', vs, ea, h, r, n, z⟩ := ru
        cases ea
        refine .inl ⟨a, vs, i, j, rfl, rfl, h, by rw [r.length]; exact hj, ?_⟩
        have x1 : Ext C (fun b => b = a) H μ (upd H a (.lst (vs.set j v))) μ := Ext.changed (.inr rfl) h (MOk.notup (o := .lst ds) ⟨vs, h, r, z⟩) rfl rfl
        exact q _ x1 ⟨a, _, rfl, upd_same .., (r.set rd j).ext x1, n, by rw [List.length_set]; exact z⟩ n
      · cases e
    · cases e
  · rename_i kvs
    refine ⟨?_, rfl⟩
    split at e
    · rename_i key hk
      split at e
      · rename_i hl
        cases e
        obtain ⟨a', ps, ea, h, r, n, z, nd⟩ := ru
        cases ea
        have hx := keyD_ok rk hk
        subst hx
        refine .inr ⟨a, _, rfl, .k h (by rw [Paired.len r, line_eq]; exact hl), ?_⟩
        have x1 : Ext C (fun b => b = a) H μ (upd H a (.dK (putK ps key v))) μ := Ext.changed (.inr rfl) h (MOk.notup (o := .dic kvs) ⟨ps, h, r, z, nd⟩) rfl rfl
        exact q _ x1 ⟨a, _, rfl, upd_same .., (KD.put rd r nd).ext x1, n, Nat.le_trans putD_len hl, putD_nd nd⟩ n
      · cases e
    · cases e
  · cases e
theorem rd_putOwn {b b2 : Bool} {i : Nat} {m mi : M} (q : tS C W (putOwnM i m mi) D σ H) : tAsg (tD C W b m) (gSub (tVar i) (tD C W b2 mi) rSetM) D σ H := by
  obtain ⟨ρ, μ, S, R, p⟩ := q
  refine readS R p fun t S1 v H1 μ1 e1 rt f R1 p1 _ => ?_
  cases eρ : ρ[i]? with
  | none => rw [eρ] at p1; exact p1.elim
  | some o =>
    cases o with
    | none => rw [eρ] at p1; exact p1.elim
    | some u =>
      rw [eρ] at p1
      obtain ⟨w, ew, ru⟩ := R1.at_ i u eρ
      refine ⟨w, ew, ?_⟩
      refine readS R1 p1 fun k S3 x H3 μ3 e3 rk _ R3 p3 _ => ?_
      cases t with
      | im d =>
        dsimp only at p3
        cases eP : putT u k d with
        | none => rw [eP] at p3; exact p3.elim
        | some u' =>
          rw [eP] at p3
          have ou : ∃ a, w = .ref a ∧ u.own = true := by
            cases u with
            | im d => cases eP
            | vl ds => obtain ⟨a, vs, ea, _⟩ := ru; exact ⟨a, ea, rfl⟩
            | vd ds => obtain ⟨a, vs, ea, _⟩ := ru; exact ⟨a, ea, rfl⟩
          obtain ⟨a, ea, ou⟩ := ou
          subst ea
          refine (putT_ok (ru.ext0 e3) rk (RD.ext e3 rt) eP fun o x5 r5 n5 => ?_).1
          obtain ⟨R5, s5⟩ := R3.change eρ ou ew x5 r5 n5
          exact p3 σ _ μ3 (x5.mono fun b e => ⟨i, u, eρ, ou, by rw [e]; exact ew⟩) R5 s5
      | _ => exact p3.elim
theorem ds_putOwn {i : Nat} {x : Str} {ie e : Expr} {b b2 : Bool} {m mi : M} {pos pos' pos2 : Pos} (hu : X.A.units + 1 < cLine) (hN : X.N[i]? = some x) (hv : Vis X.env.scope x) (hd : (x == ("__debug__" : Str)) = false) (hcd : (x == ("__classdict__" : Str)) = false) (he : DE X C W b e m) (hi : DE X C W b2 ie mi)
    (ha : ∀ v, assign (.Subscript (.Name x pos2) ie pos') X.env v = (do
      let ov ← holding [v] (eval (.Name x pos2) X.env)
      let iv ← holding [v, ov] (eval ie X.env)
      standAt pos'
      holding [v, ov, iv] (setItem ov iv v)
      release [v, ov, iv] [])) (hs : swapsWithSole [.Subscript (.Name x pos2) ie pos'] e pos.line X.env = pure false) (hw : swappedStores [.Subscript (.Name x pos2) ie pos'] e X.env = pure none)
    (h1 : (assignEach [.Subscript (.Name x pos2) ie pos'] X.env).map (·.2) = [assign (.Subscript (.Name x pos2) ie pos') X.env]) : DS X C W (.Assign [.Subscript (.Name x pos2) ie pos'] e pos) (putOwnM i m mi) :=
  impS (ps_asg he (pg_sub (pe_var hN hv hd hcd) hi (set_M hu) ha) hs hw h1) fun D σ H q => rd_putOwn q
/-! ### attributes -/
/-- the class of that name, and its attribute of that name is none of the class's own -/
structure AttrOk (C : Cn) (c f : Str) : Prop where
  no : ∀ A, C.mg c = some (.ref A) → NoAttr C.K A f
def fldO (c f : Str) : O1 := fun t S => match t with
  | .im (.ref n) => (match S[n]? with
    | some (.ins c' fs) => if c' = c then (match fs.lookup f with
      | some d => .ok (.im d) S
      | none => .stuck) else .stuck
    | _ => .stuck)
  | _ => .stuck
theorem FD.get {ps : List (Str × V)} {fs : List (Str × DL.D)} {f : Str} (h : FD C H μ ps fs) {d : DL.D} (e : fs.lookup f = some d) : ∃ v, ps.lookup f = some v ∧ RD C H μ v d := by
  induction h with
  | nil => cases e
  | @cons p q _ _ r t ih =>
    obtain ⟨k, v⟩ := p
    obtain ⟨k', d'⟩ := q
    obtain ⟨rfl, rd⟩ := r
    rw [List.lookup_cons] at e ⊢
    split at e
    · rename_i hq
      cases e
      have hq' : (f == k) = true := hq
      exact ⟨v, by rw [hq'], rd⟩
    · rename_i hq
      have hq' : (f == k) = false := hq
      rw [hq']
      exact ih e
theorem de_fld {b b1 : Bool} {e : Expr} {f c : Str} {m : M} {pos : Pos} (hK : X.K = C.K) (hA : AttrOk C c f) (he : DE X C W b1 e m) (hb : attributeBase e f X.env (eval e X.env) = eval e X.env) : DE X C W b (.Attribute e f pos) (un m (fldO c f)) :=
  impE (pe_fld he hb) fun σ H Q q => by
    obtain ⟨ρ, μ, S, R, p⟩ := q
    refine read1 R p fun t S1 v H1 μ1 e1 rt _ R1 p1 _ => ?_
    unfold fldO at p1
    split at p1
    · rename_i n
      split at p1
      · rename_i c' fs eS
        split at p1
        · rename_i ec
          subst ec
          split at p1
          · rename_i d el
            cases rt with
            | @ref _ a hn =>
              obtain ⟨A, dx, ps, hm, h, r, k⟩ := R1.sr.ok _ _ _ hn eS
              obtain ⟨v, e2, rd⟩ := FD.get r el
              exact ⟨a, A, dx, ps, v, rfl, h, by rw [hK]; exact k, by rw [hK]; exact hA.no A hm, e2, p1 v H1 μ1 Ext.refl rd (fun _ o => Bool.noConfusion o) R1.sr⟩
          · exact p1.elim
        · exact p1.elim
      · exact p1.elim
    · exact p1.elim
def putFD (f : Str) (d : DL.D) : List (Str × DL.D) → List (Str × DL.D)
  | [] => [(f, d)]
  | (g, x) :: r => if g = f then (g, d) :: r else (g, x) :: putFD f d r
theorem FD.put {ps : List (Str × V)} {fs : List (Str × DL.D)} {f : Str} {v : V} {d : DL.D} (rd : RD C H μ v d) (h : FD C H μ ps fs) : FD C H μ (putF f v ps) (putFD f d fs) := by
  induction h with
  | nil => exact .cons ⟨rfl, rd⟩ .nil
  | @cons p q _ _ r t ih =>
    obtain ⟨k, v⟩ := p
    obtain ⟨k', d'⟩ := q
    obtain ⟨rfl, r2⟩ := r
    unfold putF putFD
    split
    · exact .cons ⟨rfl, rd⟩ t
    · exact .cons ⟨rfl, r2⟩ ih
theorem fd_len {ps : List (Str × V)} {fs : List (Str × DL.D)} (h : FD C H μ ps fs) : ps.length = fs.length := Paired.len h
/-- value, object -/
def putFldM (c f : Str) (m mo : M) : MS := bindS m fun t => bindS mo fun u ρ S => match t with
  | .im d => (match u with
    | .im (.ref n) => (match S[n]? with
      | some (.ins c' fs) => if c' = c ∧ fs.length < 1000 then .ok (.nx, ρ) (S.set n (.ins c' (putFD f d fs))) else .stuck
      | _ => .stuck)
    | _ => .stuck)
  | _ => .stuck
theorem ds_putFld {b b1 : Bool} {o e : Expr} {f c : Str} {m mo : M} {pos pos' : Pos} (hK : X.K = C.K) (hA : AttrOk C c f) (he : DE X C W b e m) (ho : DE X C W b1 o mo) (hs : swapsWith e (some (.Attribute o f pos')) pos.line X.env = pure false) : DS X C W (.Assign [.Attribute o f pos'] e pos) (putFldM c f m mo) :=
  impS (ps_fld ho he hs) fun D σ H q => by
    obtain ⟨ρ, μ, S, R, p⟩ := q
    refine readS R p fun t S1 v H1 μ1 e1 rt f' R1 p1 _ => ?_
    refine readS R1 p1 fun u S2 w H2 μ2 e2 ru _ R2 p2 _ => ?_
    cases t with
    | im d =>
      cases u with
      | im du =>
        cases du with
        | ref n =>
          dsimp only at p2
          split at p2
          · rename_i c' fs eS
            split at p2
            · rename_i hc
              obtain ⟨ec, hl⟩ := hc
              subst ec
              cases ru with
              | @ref _ a hn =>
                obtain ⟨A, dx, ps, hm, h, r, k⟩ := R2.sr.ok _ _ _ hn eS
                refine ⟨a, A, dx, ps, rfl, h, by rw [hK]; exact k, by rw [hK]; exact hA.no A hm, by rw [fd_len r]; exact hl, ?_⟩
                have x5 : Ext C no H2 μ2 (upd H2 a (.ins A dx (putF f v ps))) μ2 := Ext.changed (.inl (List.mem_of_getElem? hn)) h (MOk.notup (o := .ins c' fs) ⟨A, dx, ps, hm, h, r, k⟩) rfl rfl
                have s5 := R2.sr.set hn x5 (o := .ins c' (putFD f d fs)) ⟨A, dx, _, hm, upd_same .., FD.ext x5 (FD.put (RD.ext e2 rt) r), k⟩
                exact p2 σ _ μ2 (own_ext x5) (R2.ext x5 s5) fun a h => .inl h
            · exact p2.elim
          · exact p2.elim
        | _ => exact p2.elim
      | _ => exact p2.elim
    | _ => exact p2.elim
end
end DL

/-! The data layer: methods, new instances, methods of lists and dicts. -/
namespace DL
open PySem PySem.Spec L2

section
variable {C : Cn} {W : XK} {X : Cx} {e o : Expr} {es : List Expr} {m mo : M} {ma : MA} {b b1 : Bool} {pos p apos : Pos} {x : Str} {k n : Nat} {f A : Addr} {fd : FuncData} {ps : List Str} {F : FS} {c mt : Str} {H H' : Hp} {μ μ' : List Addr} {S S' : Sto} {Q : VK}
theorem FD.getNone {ps : List (Str × V)} {fs : List (Str × DL.D)} {f : Str} (h : FD C H μ ps fs) (e : fs.lookup f = none) : ps.lookup f = none := by
  induction h with
  | nil => rfl
  | @cons p q _ _ r t ih =>
    obtain ⟨k, v⟩ := p
    obtain ⟨k', d'⟩ := q
    obtain ⟨rfl, rd⟩ := r
    rw [List.lookup_cons] at e ⊢
    split at e
    · cases e
    · rename_i hq
      have hq' : (f == k) = false := hq
      rw [hq']
      exact ih e
/-- what is wanted of a def that is called with these -/
theorem postC_of {ts : List T} {vs : List V} {H1 : Hp} {μ1 : List Addr} {r : Res T} (e1 : Ext C no H μ H1 μ1) (hP : ∀ a, ArgsOwn vs ts a → Nw H a) (p : PostE C W b H μ Q r) : PostC C W (ArgsOwn vs ts) H1 μ1 Q r := by
  have hP' : ∀ a, ArgsOwn vs ts a → no a ∨ Nw H a := fun a h => .inr (hP a h)
  cases r with
  | ok t S2 =>
    intro v H2 μ2 e2 rt fr s2
    refine p v H2 μ2 (e1.trans e2 hP') rt (fun _ o => ?_) s2
    obtain ⟨a, ea, h⟩ := fr o
    refine ⟨a, ea, ?_⟩
    rcases h with h | h
    · exact nw_back e1 h
    · exact hP a h
  | exc x S2 => exact fun cv dx H2 μ2 e2 s2 xr => p cv dx H2 μ2 (e1.trans e2 hP') s2 xr
  | stuck => exact p
theorem argsOwn_none {vs : List V} {ts : List T} (fr : Paired (Fresh H) vs ts) : ∀ a, ArgsOwn vs ts a → Nw H a := fun a ⟨i, t, h1, h2, h3⟩ => by
  obtain ⟨a', e2, e3⟩ := Paired.at_ fr i _ _ h3 h1 h2
  cases e2
  exact e3
/-- an instance of that class without an attribute of that name -/
def isIns (c mt : Str) (S : Sto) : T → Bool
  | .im (.ref k) => (match S[k]? with
    | some (.ins c' fs) => decide (c' = c) && (fs.lookup mt).isNone
    | _ => false)
  | _ => false
theorem isIns_ok {v : V} {t : T} (s : SR C H μ S) (r : RT C H μ v t) (hc : C.mg c = some (.ref A)) (e : isIns c mt S t = true) : ∃ a dx fs, v = .ref a ∧ t.own = false ∧ H a = some (.ins A dx fs) ∧ fs.lookup mt = none := by
  unfold isIns at e
  split at e
  · split at e
    · rename_i k c' fs eS
      rw [Bool.and_eq_true] at e
      have ec := of_decide_eq_true e.1
      subst ec
      cases r with
      | @ref _ a hn =>
        obtain ⟨A', dx, ps, hm, h, r, _⟩ := s.ok _ _ _ hn eS
        rw [hc] at hm
        cases hm
        refine ⟨a, dx, ps, rfl, rfl, h, FD.getNone r ?_⟩
        have := e.2
        cases z : fs.lookup mt with
        | none => rfl
        | some d => rw [z] at this; cases this
    · cases e
  · cases e
def methM (c mt : Str) (n : Nat) (F : FS) (mo : M) (ma : MA) : M := bind mo fun u ρ S => if isIns c mt S u = true then bind ma (fun ts _ S => if ts.length = n then F (u :: ts) S else .stuck) ρ S else .stuck
theorem rd_meth {σ : St} (hc : C.mg c = some (.ref A)) (q : tD C W b (methM c mt n F mo ma) σ H Q) : tMeth A mt (spF C (n + 1) F) [] W (tD C W b1 mo) (tDA C W ma) σ H Q := by
  obtain ⟨ρ, μ, S, R, p⟩ := q
  refine read1 R p fun u S1 v H1 μ1 e1 rt _ R1 p1 _ => ?_
  split at p1
  · rename_i hi
    obtain ⟨a, dx, fs, rfl, ou, h, l⟩ := isIns_ok R1.sr rt hc hi
    refine ⟨a, dx, fs, rfl, h, l, ?_⟩
    refine readA R1 p1 fun ts S2 vs H2 μ2 e2 A R2 p2 _ => ?_
    rw [List.append_nil]
    split at p2
    · rename_i hn
      have hP : ∀ a', ArgsOwn (V.ref a :: vs) (u :: ts) a' → Nw H1 a' := fun a' ⟨i, t, h1, h2, h3⟩ => by
        cases i with
        | zero => cases h1; rw [ou] at h2; cases h2
        | succ i => exact argsOwn_none A.fr a' ⟨i, t, h1, h2, h3⟩
      refine ⟨u :: ts, μ2, S2, by rw [List.length_cons, hn], R2.sr, ⟨.cons (rt.ext0 e2) A.rt, fun i j t w a' h1 h2 h3 h4 h5 h6 => ?_⟩, postC_of e2 hP p2⟩
      cases i with
      | zero => cases h1; rw [ou] at h2; cases h2
      | succ i =>
        cases j with
        | zero => cases h3; rw [ou] at h4; cases h4
        | succ j => rw [A.apart i j t w a' h1 h2 h3 h4 h5 h6]
    · exact p2.elim
  · exact p1.elim
theorem de_meth {pl : Sem Bool} (hc : C.mg c = some (.ref A)) (ho : DE X C W b1 o mo) (cl : Cls X.K A) (hm : Meth X.K A mt f) (G : FnOk X.prog X.w X.K X.mg X.base (L2.CX X.prog X.w) k f fd ps (spF C (n + 1) F)) (hr : Room k X.A) (hb : Binds X.K fd ps []) (tk : Takes X fun c d _ H => W c d H)
    (ha : DA X C W (e :: es) ma) (hst : starEach (e :: es) X.env = (false, eval e X.env) :: starEach es X.env) (hpl : (backTo pos (starEach es X.env)).any (·.1) = false)
    (ht : eval (.Call (.Attribute o mt apos) (e :: es) [] pos) X.env = (do
      let ov ← eval o X.env
      standAt apos.atName
      let (f, first) ← holding [ov] (getMethod ov mt pl)
      callWith pos f first (backTo pos (starEach (e :: es) X.env)) (backToKw pos (keywordEach [] X.env)))) : DE X C W b (.Call (.Attribute o mt apos) (e :: es) [] pos) (methM c mt n F mo ma) :=
  impE (pe_meth (E := W) ho cl hm G hr hb .nil (passes_call tk fun _ _ _ _ h => h) ha hst hpl ht) fun σ H Q q => rd_meth hc q
theorem rd_meth0 {σ : St} (hc : C.mg c = some (.ref A)) (q : tD C W b (methM c mt n F mo (argsM [])) σ H Q) : tMeth A mt (spF C (n + 1) F) [] W (tD C W b1 mo) tNil σ H Q := by
  obtain ⟨ρ, μ, S, R, p⟩ := rd_meth (b1 := b1) hc q
  refine ⟨ρ, μ, S, R, ?_⟩
  cases e1 : mo ρ S with
  | ok t S1 =>
    rw [e1] at p
    intro v H1 μ1 x1 rt f s
    obtain ⟨a, dx, fs, ev, h, l, ρ2, μ2, S2, R2, p2⟩ := p v H1 μ1 x1 rt f s
    exact ⟨a, dx, fs, ev, h, l, p2 [] H1 μ2 Ext.refl ⟨.nil, .nil, fun i j t u a h => by simp at h⟩ R2.sr⟩
  | exc x S1 => rw [e1] at p; exact p
  | stuck => rw [e1] at p; exact p
theorem de_meth0 {pl : Sem Bool} (hc : C.mg c = some (.ref A)) (ho : DE X C W b1 o mo) (cl : Cls X.K A) (hm : Meth X.K A mt f) (G : FnOk X.prog X.w X.K X.mg X.base (L2.CX X.prog X.w) k f fd ps (spF C (n + 1) F)) (hr : Room k X.A) (hb : Binds X.K fd ps []) (tk : Takes X fun c d _ H => W c d H)
    (ht : eval (.Call (.Attribute o mt apos) [] [] pos) X.env = (do
      let ov ← eval o X.env
      standAt apos.atName
      let (f, first) ← holding [ov] (getMethod ov mt pl)
      callWith pos f first (backTo pos (starEach [] X.env)) (backToKw pos (keywordEach [] X.env)))) : DE X C W b (.Call (.Attribute o mt apos) [] [] pos) (methM c mt n F mo (argsM [])) :=
  impE (pe_meth0 (E := W) ho cl hm G hr hb .nil (passes_call tk fun _ _ _ _ h => h) ht) fun σ H Q q => rd_meth0 hc q
/-! ### a new instance -/
def makeM (c : Str) (n : Nat) (F : FS) (ma : MA) : M := bind ma fun ts _ S => if ts.length = n then (match F (.im (.ref S.length) :: ts) (S ++ [.ins c []]) with
  | .ok (.im .non) S' => .ok (.im (.ref S.length)) S'
  | .ok _ _ => .stuck
  | .exc e S' => .exc e S'
  | .stuck => .stuck) else .stuck
theorem rd_make {σ : St} (hc : C.mg c = some (.ref A)) (cl : Cls C.K A) (q : tD C W b (makeM c n F ma) σ H Q) : tMake A (spF C (n + 1) F) [] W (tDA C W ma) σ H Q := by
  obtain ⟨ρ, μ, S, R, p⟩ := q
  refine readA R p fun ts S1 vs H1 μ1 e1 Ar R1 p1 _ => ?_
  rw [List.append_nil]
  intro x dx hx hd ne
  split at p1
  · rename_i hn
    have hx1 : upd H1 dx (.own x) x = none := by rw [upd_ne ne.symm]; exact hx
    have s1 := R1.sr.laid (o := .own x) hd
    have s2 : SR C (upd (upd H1 dx (.own x)) x (.ins A dx [])) μ1 S1 := s1.laid hx1
    have x2 : Ext C no H1 μ1 (upd (upd H1 dx (.own x)) x (.ins A dx [])) μ1 := (Ext.laid hd).then0 (Ext.laid hx1)
    have x3 : Ext C no H1 μ1 (upd (upd H1 dx (.own x)) x (.ins A dx [])) (μ1 ++ [x]) := x2.new (Ext.push (.of hx))
    have s3 := s2.push (a := x) (o := .ins c []) (R1.sr.fresh hx) ⟨A, dx, [], hc, upd_same .., .nil, cl⟩
    have hP : ∀ a', ArgsOwn (V.ref x :: vs) (.im (.ref S1.length) :: ts) a' → Nw H a' := fun a' ⟨i, t, h1, h2, h3⟩ => by
      cases i with
      | zero => cases h1; cases h2
      | succ i => exact argsOwn_none Ar.fr a' ⟨i, t, h1, h2, h3⟩
    have hme : (μ1 ++ [x])[S1.length]? = some x := by rw [← R1.sr.len]; simp
    refine ⟨.im (.ref S1.length) :: ts, _, _, by rw [List.length_cons, hn], s3, ⟨.cons (RD.ref hme) (Paired.mapP Ar.rt fun _ _ r => r.ext0 x3), fun i j t w a' h1 h2 h3 h4 h5 h6 => ?_⟩, ?_⟩
    · cases i with
      | zero => cases h1; cases h2
      | succ i =>
        cases j with
        | zero => cases h3; cases h4
        | succ j => rw [Ar.apart i j t w a' h1 h2 h3 h4 h5 h6]
    · have hP' : ∀ a, ArgsOwn (V.ref x :: vs) (.im (.ref S1.length) :: ts) a → no a ∨ Nw H a := fun a h => .inr (hP a h)
      cases eF : F (.im (.ref S1.length) :: ts) (S1 ++ [.ins c []]) with
      | ok t S2 =>
        rw [eF] at p1
        intro v H2 μ2 e2 rt fr s2
        split at p1
        · rename_i e3
          cases e3
          cases rt
          refine ⟨rfl, p1 _ H2 μ2 ((e1.then0 x3).trans e2 hP') ?_ (fun _ o => Bool.noConfusion o) s2⟩
          exact RD.ref (e2.at hme)
        · exact p1.elim
        · rename_i e3; cases e3
        · rename_i e3; cases e3
      | exc y S2 =>
        rw [eF] at p1
        exact fun cv dx H2 μ2 e2 s2 xr => p1 cv dx H2 μ2 ((e1.then0 x3).trans e2 hP') s2 xr
      | stuck => rw [eF] at p1; exact p1
  · exact p1.elim
theorem de_make (hK : X.K = C.K) (hc : C.mg c = some (.ref A)) (cl : Cls C.K A) (Mm : Mk X.K A f) (G : FnOk X.prog X.w X.K X.mg X.base (L2.CX X.prog X.w) k f fd ps (spF C (n + 1) F)) (hr : Room (k + 1) X.A) (hg : Gl X x) (hm : X.mg x = some (.ref A)) (hb : Binds X.K fd ps []) (tk : Takes X fun c d _ H => W c d H)
    (ha : DA X C W (e :: es) ma) (hdb : (x == ("__debug__" : Str)) = false) (he : starEach (e :: es) X.env = (false, eval e X.env) :: starEach es X.env) (hpl : (backTo pos (starEach es X.env)).any (·.1) = false) : DE X C W b (.Call (.Name x p) (e :: es) [] pos) (makeM c n F ma) :=
  impE (pe_make (E := W) Mm G hr hg hm hb .nil (passes_call tk fun _ _ _ _ h => h) ha hdb he hpl) fun σ H Q q => rd_make hc cl q
theorem de_make0 (hK : X.K = C.K) (hc : C.mg c = some (.ref A)) (cl : Cls C.K A) (Mm : Mk X.K A f) (G : FnOk X.prog X.w X.K X.mg X.base (L2.CX X.prog X.w) k f fd ps (spF C (n + 1) F)) (hr : Room (k + 1) X.A) (hg : Gl X x) (hm : X.mg x = some (.ref A)) (hb : Binds X.K fd ps []) (tk : Takes X fun c d _ H => W c d H)
    (hdb : (x == ("__debug__" : Str)) = false) : DE X C W b (.Call (.Name x p) [] [] pos) (makeM c n F (argsM [])) :=
  impE (pe_make0 (E := W) Mm G hr hg hm hb .nil (passes_call tk fun _ _ _ _ h => h) hdb) fun σ H Q q => by
    obtain ⟨ρ, μ, S, R, p⟩ := rd_make hc cl q
    exact p [] H μ Ext.refl ⟨.nil, .nil, fun i j t u a h => by simp at h⟩ R.sr
end
/-! ### methods of lists -/
def isLst (S : Sto) : T → Bool
  | .im (.ref k) => (match S[k]? with
    | some (.lst _) => true
    | _ => false)
  | _ => false
/-- o.m(..) of a list of the store -/
def lmM (f : T → OA) (mo : M) (ma : MA) : M := bind mo fun u ρ S => if isLst S u = true then bind ma (fun ts _ S => f u ts S) ρ S else .stuck
def OpM (C : Cn) (W : XK) (b : Bool) (f : T → OA) (r : V → List V → Hp → VK → Prop) : Prop := ∀ H μ S v vs u ts Q, SR C H μ S → RT C H μ v u → Paired (RT C H μ) vs ts → PostE C W b H μ Q (f u ts S) → r v vs H Q
section
variable {C : Cn} {W : XK} {X : Cx} {e o : Expr} {es : List Expr} {m mo : M} {ma : MA} {b b1 : Bool} {cpos apos : Pos} {name : Str} {id : String} {H H' : Hp} {μ μ' : List Addr} {S S' : Sto} {Q : VK} {f : T → OA} {r : V → List V → Hp → VK → Prop}
theorem isLst_ok {v : V} {t : T} (s : SR C H μ S) (r : RT C H μ v t) (e : isLst S t = true) : tyV C.K "list" v H := by
  unfold isLst at e
  split at e
  · split at e
    · rename_i k ds eS
      cases r with
      | @ref _ a hn =>
        obtain ⟨vs, h, _⟩ := s.ok _ _ _ hn eS
        exact .inl ⟨rfl, vs, .of h⟩
    · cases e
  · cases e
theorem rd_lm {σ : St} (hf : OpM C W b f r) (q : tD C W b (lmM f mo ma) σ H Q) : tBM C.K "list" r (tD C W b1 mo) (tDB C W ma) σ H Q := by
  obtain ⟨ρ, μ, S, R, p⟩ := q
  refine read1 R p fun u S1 v H1 μ1 e1 rt _ R1 p1 _ => ?_
  split at p1
  · rename_i hi
    refine ⟨isLst_ok R1.sr rt hi, ?_⟩
    exact readB R1 p1 fun ts S2 vs H2 μ2 e2 A R2 p2 => hf H2 μ2 S2 v vs u ts Q R2.sr (rt.ext0 e2) A p2
  · exact p1.elim
theorem de_lm (hK : X.K = C.K) (pa : PlainAttrs "list") (slot : Slot "list" name id) (hty : typeOf (.builtin id) = pure (.type "method_descriptor")) (hm : MtR X id r) (hf : OpM C W b f r) (ho : DE X C W b1 o mo) (ha : DBs X C W (e :: es) ma)
    (hbase : attributeBase o name X.env (eval o X.env) = eval o X.env)
    (hfew : ((backTo cpos (starEach (e :: es) X.env)).all (fun x => !x.1) && (backToKw cpos (keywordEach [] X.env)).all (fun x => x.1.isSome)
      && decide ((e :: es).length + ([] : List Keyword).length + (if ([] : List Keyword).isEmpty then 0 else 1) < 30)) = true)
    (hline : (apos.endLine == cpos.line) = true) (hs : starEach (e :: es) X.env = (false, eval e X.env) :: starEach es X.env) (hplain : (backTo cpos (starEach es X.env)).any (·.1) = false) :
    DE X C W b (.Call (.Attribute o name apos) (e :: es) [] cpos) (lmM f mo ma) := impE (pe_bm pa slot hty hm ho ha hbase hfew hline hs hplain) fun σ H Q q => by rw [hK]; exact rd_lm hf q
theorem de_lm0 (hK : X.K = C.K) (pa : PlainAttrs "list") (slot : Slot "list" name id) (hty : typeOf (.builtin id) = pure (.type "method_descriptor")) (hm : MtR X id r) (hf : OpM C W b f r) (ho : DE X C W b1 o mo)
    (hbase : attributeBase o name X.env (eval o X.env) = eval o X.env) (hline : (apos.endLine == cpos.line) = true) : DE X C W b (.Call (.Attribute o name apos) [] [] cpos) (lmM f mo (argsM [])) :=
  impE (pe_bm0 pa slot hty hm ho hbase hline) fun σ H Q q => by
    rw [hK]
    obtain ⟨ρ, μ, S, R, p⟩ := rd_lm (b1 := b1) hf q
    refine ⟨ρ, μ, S, R, ?_⟩
    cases e1 : mo ρ S with
    | ok t S1 =>
      rw [e1] at p
      intro v H1 μ1 x1 rt f s
      obtain ⟨ty, ρ2, μ2, S2, R2, p2⟩ := p v H1 μ1 x1 rt f s
      exact ⟨ty, p2 [] H1 μ2 Ext.refl .nil R2.sr⟩
    | exc x S1 => rw [e1] at p; exact p
    | stuck => rw [e1] at p; exact p
/-- the ways -/
def appendF : T → OA := fun u ts S => match u with
  | .im (.ref n) => (match ts with
    | [.im d] => (match S[n]? with
      | some (.lst ds) => if ds.length < line then .ok (.im .non) (S.set n (.lst (ds ++ [d]))) else .stuck
      | _ => .stuck)
    | _ => .stuck)
  | _ => .stuck
theorem lst_set {n : Nat} {a : Addr} {vs ws : List V} {ds es : List DL.D} (s : SR C H μ S) (hn : μ[n]? = some a) (h : H a = some (.lst vs)) (r : RDs C H μ ws es) (z : es.length ≤ line) :
    Ext C no H μ (upd H a (.lst ws)) μ ∧ SR C (upd H a (.lst ws)) μ (S.set n (.lst es)) := by
  have x : Ext C no H μ (upd H a (.lst ws)) μ := Ext.changed (.inl (List.mem_of_getElem? hn)) h (fun us q => by rcases q with q | ⟨o, q⟩ <;> (rw [h] at q; cases q)) rfl rfl
  exact ⟨x, s.set hn x ⟨ws, upd_same .., r.ext x, z⟩⟩
theorem appendF_ok : OpM C W b appendF rAppend := fun H μ S v vs u ts Q s r A p => by
  unfold appendF at p
  split at p
  · rename_i n
    split at p
    · rename_i d
      split at p
      · rename_i ds eS
        split at p
        · rename_i hl
          obtain ⟨w, rfl, rw'⟩ := one_arg (ts := []) A
          cases r with
          | @ref _ a hn =>
            obtain ⟨xs, h, rs, z⟩ := s.ok _ _ _ hn eS
            obtain ⟨x1, s1⟩ := lst_set (ds := ds) s hn h (rs.append (.one (show RD C H μ w d from rw'))) (by rw [List.length_append]; exact hl)
            exact ⟨a, xs, w, rfl, rfl, h, by rw [rs.length, line_eq]; exact hl, p _ _ μ x1 .non (fun _ o => Bool.noConfusion o) s1⟩
        · exact p.elim
      · exact p.elim
    · exact p.elim
  · exact p.elim
def popF : T → OA := fun u ts S => match u with
  | .im (.ref n) => (match ts with
    | [] => (match S[n]? with
      | some (.lst ds) => (match ds[ds.length - 1]? with
        | some d => .ok (.im d) (S.set n (.lst ds.dropLast))
        | none => .stuck)
      | _ => .stuck)
    | [.im (.int i)] => (match S[n]? with
      | some (.lst ds) => if -(2 ^ 63) ≤ i ∧ i < 2 ^ 63 then (match seqIndex? i ds.length with
        | some k => (match ds[k]? with
          | some d => .ok (.im d) (S.set n (.lst (ds.eraseIdx k)))
          | none => .stuck)
        | none => .stuck) else .stuck
      | _ => .stuck)
    | _ => .stuck)
  | _ => .stuck
theorem MtR.or {r' : V → List V → Hp → VK → Prop} (h : MtR X id r) (h' : MtR X id r') : MtR X id fun x xs H Q => r x xs H Q ∨ r' x xs H Q := by
  intro pins s σ H x xs v us Q I rx rs q
  rcases q with q | q
  · exact h pins s σ H x xs v us Q I rx rs q
  · exact h' pins s σ H x xs v us Q I rx rs q
theorem mt_popM : MtR X "list.pop" fun x xs H Q => rPop x xs H Q ∨ rPopAt x xs H Q := MtR.or mt_pop mt_popAt
theorem popF_ok : OpM C W b popF (fun x xs H Q => rPop x xs H Q ∨ rPopAt x xs H Q) := fun H μ S v vs u ts Q s r A p => by
  unfold popF at p
  split at p
  · rename_i n
    split at p
    · split at p
      · rename_i ds eS
        split at p
        · rename_i d ed
          cases A
          cases r with
          | @ref _ a hn =>
            obtain ⟨xs, h, rs, z⟩ := s.ok _ _ _ hn eS
            obtain ⟨w, ew, rd⟩ := rs.get ed
            have rs' : RDs C H μ xs.dropLast ds.dropLast := by
              rw [List.dropLast_eq_take, List.dropLast_eq_take, rs.length]
              exact rs.take _
            obtain ⟨x1, s1⟩ := lst_set (ds := ds) s hn h rs' (by rw [List.length_dropLast]; omega)
            exact .inl ⟨a, xs, w, rfl, rfl, h, by rw [rs.length]; exact ew, p _ _ μ x1 (RD.ext x1 rd) (fun _ o => Bool.noConfusion o) s1⟩
        · exact p.elim
      · exact p.elim
    · rename_i i
      split at p
      · rename_i ds eS
        split at p
        · rename_i hi
          split at p
          · rename_i k ek
            split at p
            · rename_i d ed
              obtain ⟨w0, rfl, rw'⟩ := one_arg (ts := []) A
              cases rw'
              cases r with
              | @ref _ a hn =>
                obtain ⟨xs, h, rs, z⟩ := s.ok _ _ _ hn eS
                obtain ⟨w, ew, rd⟩ := rs.get ed
                obtain ⟨x1, s1⟩ := lst_set (ds := ds) s hn h (rs.eraseIdx k) (Nat.le_trans (len_erase ds k) z)
                exact .inr ⟨a, xs, i, k, w, rfl, rfl, h, hi.1, hi.2, by rw [rs.length]; exact ek, ew, p _ _ μ x1 (RD.ext x1 rd) (fun _ o => Bool.noConfusion o) s1⟩
            · exact p.elim
          · exact p.elim
        · exact p.elim
      · exact p.elim
    · exact p.elim
  · exact p.elim
/-- x.append(e), x a slot that alone holds its list -/
def appendOwnM (i : Nat) (m : M) : MS := fun ρ S => match ρ[i]? with
  | some (some (.vl ds)) => bindS m (fun t ρ S => match t with
    | .im d => if ds.length < line then .ok (.nx, ρ.set i (some (.vl (ds ++ [d])))) S else .stuck
    | _ => .stuck) ρ S
  | _ => .stuck
theorem rd_appendOwn {i : Nat} {D : Ends} {σ : St} (q : tS C W (appendOwnM i m) D σ H) : tDrop (tBM C.K "list" rAppend (tVar i) (tDB C W (argsM [m]))) D σ H := by
  obtain ⟨ρ, μ, S, R, p⟩ := q
  unfold appendOwnM at p
  split at p
  · rename_i ds eρ
    obtain ⟨w, ew, a, vs, rfl, h, rs, n, z⟩ := R.at_ i _ eρ
    refine ⟨.ref a, ew, .inl ⟨rfl, vs, .of h⟩, ρ, μ, S, R, ?_⟩
    unfold bindS at p
    cases e1 : m ρ S with
    | ok t S1 =>
      rw [e1] at p
      have e2 : argsM [m] ρ S = .ok [t] S1 := by unfold argsM bind; rw [e1]; rfl
      rw [e2]
      intro vs1 H1 μ1 x1 A s1
      cases t with
      | im d =>
        dsimp only at p
        split at p
        · rename_i hl
          obtain ⟨y, rfl, ry⟩ := one_arg (ts := []) A
          have own : Own σ ρ a := ⟨i, _, eρ, rfl, ew⟩
          have h1 := x1.keep a _ h rfl n id
          have n1 := x1.notin h rfl n id
          refine ⟨a, vs, y, rfl, rfl, h1, by rw [rs.length, line_eq]; exact hl, ?_⟩
          have r2 := (rs.ext x1).append (.one (show RD C H1 μ1 y d from ry))
          have x5 : Ext C (fun b => b = a) H1 μ1 (upd H1 a (.lst (vs ++ [y]))) μ1 := Ext.changed (.inr rfl) h1 (fun us q => by rcases q with q | ⟨o, q⟩ <;> (rw [h1] at q; cases q)) rfl rfl
          have R1 := R.ext x1 s1
          obtain ⟨R5, s5⟩ := R1.change eρ rfl ew x5 (t' := .vl (ds ++ [d])) ⟨a, _, rfl, upd_same .., r2.ext x5, n1, by rw [List.length_append]; exact hl⟩ n1
          have xx : Ext C (Own σ ρ) H μ (upd H1 a (.lst (vs ++ [y]))) μ1 := (own_ext (P := Own σ ρ) x1).trans x5 fun b eb => .inl (by rw [eb]; exact own)
          exact p σ _ μ1 xx R5 (Sub.trans (own_ext (P := Own σ ρ) x1) (fun a h => .inl h) s5)
        · exact p.elim
      | _ => exact p.elim
    | exc x S1 =>
      rw [e1] at p
      have e2 : argsM [m] ρ S = .exc x S1 := by unfold argsM bind; rw [e1]
      rw [e2]
      exact fun cv dx H2 μ2 e2 s2 xr => p cv dx H2 μ2 (own_ext e2) s2 xr
    | stuck => rw [e1] at p; exact p.elim
  · exact p.elim
theorem ds_appendOwn {i : Nat} {x : Str} {pos pos2 : Pos} (hK : X.K = C.K) (hN : X.N[i]? = some x) (hv : Vis X.env.scope x) (hd : (x == ("__debug__" : Str)) = false) (hcd : (x == ("__classdict__" : Str)) = false) (he : DE X C W b1 e m)
    (hbase : attributeBase (.Name x pos2) "append" X.env (eval (.Name x pos2) X.env) = eval (.Name x pos2) X.env)
    (hfew : ((backTo cpos (starEach [e] X.env)).all (fun x => !x.1) && (backToKw cpos (keywordEach [] X.env)).all (fun x => x.1.isSome)
      && decide (([e] : List Expr).length + ([] : List Keyword).length + (if ([] : List Keyword).isEmpty then 0 else 1) < 30)) = true)
    (hline : (apos.endLine == cpos.line) = true) (hs : starEach [e] X.env = (false, eval e X.env) :: starEach [] X.env) (hplain : (backTo cpos (starEach [] X.env)).any (·.1) = false)
    (hsw : swapsWith (.Call (.Attribute (.Name x pos2) "append" apos) [e] [] cpos) none pos.line X.env = pure false) :
    DS X C W (.Expr (.Call (.Attribute (.Name x pos2) "append" apos) [e] [] cpos) pos) (appendOwnM i m) :=
  impS (ps_expr (pe_bm PySem.F.plainAttrs_list PySem.F.slot_list_append PySem.F.type_list_append mt_append (pe_var hN hv hd hcd) (db_cons he db_nil hs) hbase hfew hline hs hplain) hsw) fun D σ H q => by rw [hK]; exact rd_appendOwn q
/-! ### methods of dicts -/
def isDic (S : Sto) : T → Bool
  | .im (.ref k) => (match S[k]? with
    | some (.dic _) => true
    | some (.fdic _) => true
    | _ => false)
  | .vd _ => true
  | _ => false
theorem isDic_ok {v : V} {t : T} (s : SR C H μ S) (r : RT C H μ v t) (e : isDic S t = true) : ∃ a, v = .ref a ∧ IsD H a := by
  unfold isDic at e
  split at e
  · split at e
    · rename_i k ds eS
      cases r with
      | @ref _ a hn =>
        obtain ⟨vs, h, _⟩ := s.ok _ _ _ hn eS
        exact ⟨a, rfl, .inl ⟨vs, .inl h⟩⟩
    · rename_i k ds eS
      cases r with
      | @ref _ a hn =>
        obtain ⟨o, vs, h, _⟩ := s.ok _ _ _ hn eS
        exact ⟨a, rfl, .inl ⟨vs, .inr ⟨o, h⟩⟩⟩
    · cases e
  · obtain ⟨a, ps, rfl, h, _⟩ := r
    exact ⟨a, rfl, .inl ⟨ps, .inl h⟩⟩
  · cases e
def dicR (S : Sto) : T → Option (List (Key × DL.D))
  | .im (.ref k) => (match S[k]? with
    | some (.dic kvs) => some kvs
    | some (.fdic kvs) => some kvs
    | _ => none)
  | .vd kvs => some kvs
  | _ => none
theorem dicR_ok {v : V} {t : T} {kvs : List (Key × DL.D)} (s : SR C H μ S) (r : RT C H μ v t) (e : dicR S t = some kvs) : ∃ a ps, v = .ref a ∧ Rd H a (.dK ps) ∧ KD C H μ ps kvs := by
  unfold dicR at e
  split at e
  · split at e
    · rename_i k ds eS
      cases e
      cases r with
      | @ref _ a hn =>
        obtain ⟨vs, h, r, _⟩ := s.ok _ _ _ hn eS
        exact ⟨a, vs, rfl, .inl h, r⟩
    · rename_i k ds eS
      cases e
      cases r with
      | @ref _ a hn =>
        obtain ⟨o, vs, h, r, _⟩ := s.ok _ _ _ hn eS
        exact ⟨a, vs, rfl, .inr ⟨o, h⟩, r⟩
    · cases e
  · cases e
    obtain ⟨a, ps, rfl, h, r, _⟩ := r
    exact ⟨a, ps, rfl, .inl h, r⟩
  · cases e
/-- d.get(k, x): three parts; the third is data -/
def dgetM (mo mk mx : M) : M := bind mo fun u ρ S => if isDic S u = true then bind mk (fun k => bind mx fun x ρ S => match x with
  | .im dx => (match dicR S u with
    | some kvs => (match keyD k with
      | some key => .ok (.im ((getK kvs key).getD dx)) S
      | none => .stuck)
    | none => .stuck)
  | _ => .stuck) ρ S else .stuck
theorem de_dget2 {f : Expr} {b2 b3 : Bool} {mk mx : M} (hu : X.A.units + 1 < cLine) (ho : DE X C W b1 o mo) (he : DE X C W b2 e mk) (hf : DE X C W b3 f mx) (m : M2 X o "get" apos e f cpos) : DE X C W b (.Call (.Attribute o "get" apos) [e, f] [] cpos) (dgetM mo mk mx) :=
  impE (pe_dget2 hu ho he hf m) fun σ H Q q => by
    obtain ⟨ρ, μ, S, R, p⟩ := q
    refine read1 R p fun u S1 v H1 μ1 e1 ru _ R1 p1 _ => ?_
    split at p1
    · rename_i hi
      obtain ⟨a, rfl, hd⟩ := isDic_ok R1.sr ru hi
      refine ⟨a, rfl, hd, ?_⟩
      refine read1 R1 p1 fun k S2 y H2 μ2 e2 rk _ R2 p2 _ => ?_
      refine read1 R2 p2 fun x S3 z H3 μ3 e3 rx _ R3 p3 _ => ?_
      cases x with
      | im dx =>
        dsimp only at p3
        split at p3
        · rename_i kvs ed
          split at p3
          · rename_i key ek
            obtain ⟨a', ps, ea, h, r⟩ := dicR_ok R3.sr ((ru.ext0 e2).ext0 e3) ed
            cases ea
            have hy := keyD_ok rk ek
            subst hy
            refine ⟨valV ps key, .inl ⟨ps, key, h, rfl, rfl⟩, p3 _ H3 μ3 Ext.refl ?_ (fun _ o => Bool.noConfusion o) R3.sr⟩
            have g := KD.get key r
            show RD C H3 μ3 _ _
            cases eg : getK kvs key with
            | none => rw [g.2 eg]; exact rx
            | some d => obtain ⟨w, ew, rd⟩ := g.1 d eg; rw [ew]; exact rd
          · exact p3.elim
        · exact p3.elim
      | _ => exact p3.elim
    · exact p1.elim
/-- d.pop(k), d.pop(k, x) of a dict of the store -/
def dpopM (mo mk : M) : M := bind mo fun u ρ S => if isDic S u = true then bind mk (fun k ρ S => match u with
  | .im (.ref n) => (match S[n]? with
    | some (.dic kvs) => (match keyD k with
      | some key => (match getK kvs key with
        | some d => .ok (.im d) (S.set n (.dic (dropD kvs key)))
        | none => .stuck)
      | none => .stuck)
    | _ => .stuck)
  | _ => .stuck) ρ S else .stuck
def dpop2M (mo mk mx : M) : M := bind mo fun u ρ S => if isDic S u = true then bind mk (fun k => bind mx fun x ρ S => match u with
  | .im (.ref n) => (match x with
    | .im dx => (match S[n]? with
      | some (.dic kvs) => (match keyD k with
        | some key => (match getK kvs key with
          | some d => .ok (.im d) (S.set n (.dic (dropD kvs key)))
          | none => .ok (.im dx) S)
        | none => .stuck)
      | _ => .stuck)
    | _ => .stuck)
  | _ => .stuck) ρ S else .stuck
theorem dic_set {n : Nat} {a : Addr} {vs ws : List (Key × V)} {es : List (Key × DL.D)} (s : SR C H μ S) (hn : μ[n]? = some a) (h : H a = some (.dK vs)) (r : KD C H μ ws es) (z : es.length ≤ line) (nd : (es.map (·.1)).Nodup) :
    Ext C no H μ (upd H a (.dK ws)) μ ∧ SR C (upd H a (.dK ws)) μ (S.set n (.dic es)) := by
  have x : Ext C no H μ (upd H a (.dK ws)) μ := Ext.changed (.inl (List.mem_of_getElem? hn)) h (fun us q => by rcases q with q | ⟨o, q⟩ <;> (rw [h] at q; cases q)) rfl rfl
  exact ⟨x, s.set hn x ⟨ws, upd_same .., r.ext x, z, nd⟩⟩
theorem de_dpop1 {b2 : Bool} {mk : M} (ho : DE X C W b1 o mo) (he : DE X C W b2 e mk) (m : M1 X o "pop" apos e cpos) : DE X C W b (.Call (.Attribute o "pop" apos) [e] [] cpos) (dpopM mo mk) :=
  impE (pe_dpop1 ho he m) fun σ H Q q => by
    obtain ⟨ρ, μ, S, R, p⟩ := q
    refine read1 R p fun u S1 v H1 μ1 e1 ru _ R1 p1 _ => ?_
    split at p1
    · rename_i hi
      obtain ⟨a, rfl, hd⟩ := isDic_ok R1.sr ru hi
      refine ⟨a, rfl, hd, ?_⟩
      refine read1 R1 p1 fun k S2 y H2 μ2 e2 rk _ R2 p2 _ => ?_
      split at p2
      · rename_i n
        split at p2
        · rename_i kvs eS
          split at p2
          · rename_i key ek
            split at p2
            · rename_i d ed
              cases ru with
              | @ref _ _ hn =>
                have hn2 := e2.at hn
                obtain ⟨ps, h, r, z, nd⟩ := R2.sr.ok _ _ _ hn2 eS
                have hy := keyD_ok rk ek
                subst hy
                obtain ⟨w, ew, rd⟩ := (KD.get key r).1 d ed
                obtain ⟨x5, s5⟩ := dic_set R2.sr hn2 h (KD.drop (k := key) r) (Nat.le_trans dropD_len z) (dropD_nd nd)
                exact ⟨ps, key, w, h, rfl, ew, p2 _ _ μ2 x5 (RD.ext x5 rd) (fun _ o => Bool.noConfusion o) s5⟩
            · exact p2.elim
          · exact p2.elim
        · exact p2.elim
      · exact p2.elim
    · exact p1.elim
theorem de_dpop2 {f : Expr} {b2 b3 : Bool} {mk mx : M} (ho : DE X C W b1 o mo) (he : DE X C W b2 e mk) (hf : DE X C W b3 f mx) (m : M2 X o "pop" apos e f cpos) : DE X C W b (.Call (.Attribute o "pop" apos) [e, f] [] cpos) (dpop2M mo mk mx) :=
  impE (pe_dpop2 ho he hf m) fun σ H Q q => by
    obtain ⟨ρ, μ, S, R, p⟩ := q
    refine read1 R p fun u S1 v H1 μ1 e1 ru _ R1 p1 _ => ?_
    split at p1
    · rename_i hi
      obtain ⟨a, rfl, hd⟩ := isDic_ok R1.sr ru hi
      refine ⟨a, rfl, hd, ?_⟩
      refine read1 R1 p1 fun k S2 y H2 μ2 e2 rk _ R2 p2 _ => ?_
      refine read1 R2 p2 fun x S3 z H3 μ3 e3 rx _ R3 p3 _ => ?_
      split at p3
      · rename_i n
        split at p3
        · rename_i dx
          split at p3
          · rename_i kvs eS
            split at p3
            · rename_i key ek
              cases ru with
              | @ref _ _ hn =>
                have hn2 := e3.at (e2.at hn)
                obtain ⟨ps, h, r, zl, nd⟩ := R3.sr.ok _ _ _ hn2 eS
                have hy := keyD_ok rk ek
                subst hy
                obtain ⟨x5, s5⟩ := dic_set R3.sr hn2 h (KD.drop (k := key) r) (Nat.le_trans dropD_len zl) (dropD_nd nd)
                refine ⟨ps, key, h, rfl, fun w ew => ?_, fun ew => ?_⟩
                · cases ed : getK kvs key with
                  | none => rw [(KD.get key r).2 ed] at ew; cases ew
                  | some d =>
                    rw [ed] at p3
                    obtain ⟨w', ew', rd⟩ := (KD.get key r).1 d ed
                    rw [ew] at ew'; cases ew'
                    exact p3 _ _ μ3 x5 (RD.ext x5 rd) (fun _ o => Bool.noConfusion o) s5
                · cases ed : getK kvs key with
                  | none =>
                    rw [ed] at p3
                    exact p3 _ H3 μ3 Ext.refl rx (fun _ o => Bool.noConfusion o) R3.sr
                  | some d =>
                    obtain ⟨w', ew', rd⟩ := (KD.get key r).1 d ed
                    rw [ew] at ew'; cases ew'
            · exact p3.elim
          · exact p3.elim
        · exact p3.elim
      · exact p3.elim
    · exact p1.elim
end
end DL

/-! The data layer: what is walked, for, comprehensions. -/
namespace DL
open PySem PySem.Spec L2

abbrev SM := Ev → Sto → Res (Get × Nat)
def PostI (C : Cn) (W : XK) (o : Bool) (H : Hp) (μ : List Addr) (σ : St) (ρ : Ev) (R : It → Hp → Prop) : Res (Get × Nat) → Prop
  | .ok gk S' => ∀ J I H' μ', Ext C no H μ H' μ' → SR C H' μ' S' → Src C o J gk.1 I → I H' μ' σ ρ → R J H'
  | .exc e S' => PostX C W no H μ e S'
  | .stuck => False
def tI (C : Cn) (W : XK) (o : Bool) (sm : SM) : TI := fun σ H R => ∃ ρ μ S, Rel C H μ σ ρ S ∧ PostI C W o H μ σ ρ R (sm ρ S)
abbrev DI (X : Cx) (C : Cn) (W : XK) (o : Bool) (tg iter : Expr) (sm : SM) : Prop := PI X tg iter (tI C W o sm)
/-- what a value is walked as -/
def walkOf (S : Sto) : T → Option (Get × Nat)
  | .im (.tup ds) => some (constG ds, ds.length)
  | .im (.kl ds) => some (constG ds, ds.length)
  | .vl ds => some (constG ds, ds.length)
  | .im (.ref n) => (match S[n]? with
    | some (.lst ds) => some (objG n, ds.length)
    | _ => none)
  | _ => none
def seqS (m : M) : SM := fun ρ S => match m ρ S with
  | .ok t S1 => (match walkOf S1 t with
    | some gk => .ok gk S1
    | none => .stuck)
  | .exc e S1 => .exc e S1
  | .stuck => .stuck
def range1S (m : M) : SM := fun ρ S => match m ρ S with
  | .ok (.im (.int j)) S1 => if -4611686018427387904 ≤ j ∧ j < 4611686018427387904 then .ok (constG (rangeD 0 j.toNat), j.toNat) S1 else .stuck
  | .ok _ _ => .stuck
  | .exc e S1 => .exc e S1
  | .stuck => .stuck
def range2S (ms : MA) : SM := fun ρ S => match ms ρ S with
  | .ok [.im (.int i), .im (.int j)] S1 => if (-4611686018427387904 ≤ i ∧ i < 4611686018427387904) ∧ -4611686018427387904 ≤ j ∧ j < 4611686018427387904 then .ok (constG (rangeD i (j - i).toNat), (j - i).toNat) S1 else .stuck
  | .ok _ _ => .stuck
  | .exc e S1 => .exc e S1
  | .stuck => .stuck
theorem impI {X : Cx} {tg it : Expr} {t t' : TI} (h : PI X tg it t) (k : ∀ σ H Q, t' σ H Q → t σ H Q) : PI X tg it t' := ⟨fun pins s σ H Q I q => h.run pins s σ H Q I (k _ _ _ q)⟩
section
variable {C : Cn} {W : XK} {X : Cx} {H H' : Hp} {μ μ' : List Addr} {σ σ' : St} {ρ ρ' : Ev} {S S' : Sto} {o b b1 b2 : Bool}
theorem rd_seq {m : M} {R : It → Hp → Prop} (hb : o = true → b1 = false) (q : tI C W o (seqS m) σ H R) : iSeq C.K (tD C W b1 m) σ H R := by
  obtain ⟨ρ, μ, S, R0, p⟩ := q
  refine ⟨ρ, μ, S, R0, ?_⟩
  unfold seqS at p
  cases e : m ρ S with
  | ok t S1 =>
    rw [e] at p
    intro v H1 μ1 e1 rt f s1
    dsimp only at p
    split at p
    · rename_i gk ew
      unfold walkOf at ew
      split at ew
      · cases ew
        cases rt with
        | @tup a vs ds h r z => exact ⟨a, rfl, .inr ⟨⟨vs, h⟩, p _ _ H1 μ1 e1 s1 src_tup ⟨vs, h, r⟩⟩⟩
      · cases ew
        cases rt with
        | @kl a vs ds h r z => exact ⟨a, rfl, .inl ⟨⟨vs, h.seq⟩, p _ _ H1 μ1 e1 s1 src_kl ⟨vs, h, r⟩⟩⟩
      · cases ew
        obtain ⟨a, vs, rfl, h, r, n1, z⟩ := rt
        refine ⟨a, rfl, .inl ⟨⟨vs, .of h⟩, p _ _ H1 μ1 e1 s1 src_lst ⟨vs, h, r, n1, fun eo ow => ?_⟩⟩⟩
        obtain ⟨a', ea, en⟩ := f (hb eo) rfl
        cases ea
        obtain ⟨x, hx, tx⟩ := R0.there ow
        rw [en x hx] at tx; cases tx
      · rename_i n
        split at ew
        · rename_i ds e2
          cases ew
          cases rt with
          | @ref n a h =>
            obtain ⟨vs, h1, r, _⟩ := s1.ok _ _ _ h e2
            exact ⟨a, rfl, .inl ⟨⟨vs, .of h1⟩, p _ _ H1 μ1 e1 s1 src_obj h⟩⟩
        · cases ew
      · cases ew
    · exact p.elim
  | exc x S1 => rw [e] at p; exact p
  | stuck => rw [e] at p; exact p
theorem di_seq {tg e : Expr} {m : M} (hK : X.K = C.K) (hb : o = true → b1 = false) (he : DE X C W b1 e m) : DI X C W o tg e (seqS m) := impI (pi_seq he) fun σ H Q q => by rw [hK]; exact rd_seq hb q
theorem di_range1 {tg a : Expr} {m : M} {p pos : Pos} (hg0 : Gl X "range") (hm0 : X.mg "range" = none) (hi : DBs X C W [a] (argsM [m])) (hs0 : starEach [a] X.env = [(false, eval a X.env)]) : DI X C W o tg (.Call (.Name "range" p) [a] [] pos) (range1S m) :=
  impI (pi_range1 hg0 hm0 hi hs0) fun σ H Q q => by
    obtain ⟨ρ, μ, S, R0, p⟩ := q
    refine ⟨ρ, μ, S, R0, ?_⟩
    unfold range1S at p
    have e0 : argsM [m] ρ S = (match m ρ S with
      | .ok t S1 => .ok [t] S1
      | .exc e S1 => .exc e S1
      | .stuck => .stuck) := by unfold argsM bind; cases m ρ S <;> rfl
    rw [e0]
    cases e : m ρ S with
    | ok t S1 =>
      rw [e] at p
      intro vs H1 μ1 e1 A s1
      split at p
      · rename_i j S2 e2
        cases e2
        obtain ⟨v, rfl, r1⟩ := one_arg (ts := []) A
        cases r1
        split at p
        · rename_i hj
          exact ⟨j, rfl, hj.1, hj.2, p _ _ H1 μ1 e1 s1 src_range trivial⟩
        · exact p.elim
      · exact p.elim
      · rename_i e2; cases e2
      · rename_i e2; cases e2
    | exc x S1 => rw [e] at p; exact p
    | stuck => rw [e] at p; exact p
theorem di_range2 {tg a c : Expr} {m n : M} {p pos : Pos} (hg0 : Gl X "range") (hm0 : X.mg "range" = none) (hi : DBs X C W [a, c] (argsM [m, n])) (hs0 : starEach [a, c] X.env = [(false, eval a X.env), (false, eval c X.env)]) (hs1 : starEach [c] X.env = [(false, eval c X.env)]) :
    DI X C W o tg (.Call (.Name "range" p) [a, c] [] pos) (range2S (argsM [m, n])) :=
  impI (pi_range2 hg0 hm0 hi hs0 hs1) fun σ H Q q => by
    obtain ⟨ρ, μ, S, R0, p⟩ := q
    refine ⟨ρ, μ, S, R0, ?_⟩
    unfold range2S at p
    cases e : argsM [m, n] ρ S with
    | ok ts S1 =>
      rw [e] at p
      intro vs H1 μ1 e1 A s1
      split at p
      · rename_i i j S2 e2
        cases e2
        obtain ⟨v, w, rfl, r1, r2⟩ := two_args A
        cases r1; cases r2
        split at p
        · rename_i hj
          exact ⟨i, j, rfl, ⟨hj.1.1, hj.1.2, hj.2.1, hj.2.2⟩, p _ _ H1 μ1 e1 s1 src_range trivial⟩
        · exact p.elim
      · exact p.elim
      · rename_i e2; cases e2
      · rename_i e2; cases e2
    | exc x S1 => rw [e] at p; exact p
    | stuck => rw [e] at p; exact p
/-! ### for -/
def forM (sm : SM) (tgt : Tgt) (body : MS) : MS := fun ρ S => match sm ρ S with
  | .ok gk S1 => forL gk.1 tgt body gk.2 0 ρ S1
  | .exc e S1 => .exc e S1
  | .stuck => .stuck
theorem rd_for {sm : SM} {g : TG} {tgt : Tgt} {body : MS} (tg : TgOk C g tgt) {D : Ends} {σ : St} {H : Hp} (q : tS C W (forM sm tgt body) D σ H) : tFor (tI C W true sm) g (tS C W body) D σ H := by
  obtain ⟨ρ, μ, S, R, p⟩ := q
  refine ⟨ρ, μ, S, R, ?_⟩
  unfold forM at p
  cases e : sm ρ S with
  | ok gk S1 =>
    rw [e] at p
    exact fun J I H1 μ1 e1 s1 src i1 => for_core src tg (R.ext e1 s1) i1 (PostS.ext (own_ext e1) (fun _ z => .inl z) p)
  | exc x S1 => rw [e] at p; exact fun cv dx H2 μ2 e2 s2 xr => p cv dx H2 μ2 (own_ext e2) s2 xr
  | stuck => rw [e] at p; exact p
theorem ds_for {tg iter : Expr} {body : List Stmt} {sm : SM} {g : TG} {tgt : Tgt} {mb : MS} {pos : Pos} (hp : PassesOwn (model X.prog X.w) X.A X.env X.xe) (hc : X.calm = true) (hi : DI X C W true tg iter sm) (hg : PG X tg g) (ht : TgOk C g tgt) (hb : DSs X C W body mb)
    (hs : ∀ x, foldedSetIterable iter X.env x = pure x) : DS X C W (.For tg iter body [] pos) (forM sm tgt mb) := impS (ps_for hp hc hi hg hb hs) fun D σ H q => rd_for ht q
/-! ### comprehensions -/
/-- a target of a block: it stores into the block's own slots alone -/
def TgW (vs : List Nat) (g : TG) (tgt : Tgt) (C : Cn) : Prop := ∀ H μ σ ρ S x d ρ' (Q : St → Hp → Prop), Rel C H μ σ ρ S → RD C H μ x d → tgt d ρ = some ρ' →
  (∀ σ', Rel C H μ σ' ρ' S → wipe σ' vs = wipe σ vs → Q σ' H) → g x σ H Q
def TgsW (vs : List Nat) (g : TGs) (ts : List Tgt) (C : Cn) : Prop := ∀ H μ σ ρ S xs ds ρ' (Q : St → Hp → Prop), Rel C H μ σ ρ S → RDs C H μ xs ds → tgEach ts ds ρ = some ρ' →
  (∀ σ', Rel C H μ σ' ρ' S → wipe σ' vs = wipe σ vs → Q σ' H) → g xs σ H Q
theorem wipe_get {σ : St} {i : Nat} : ∀ {vs : List Nat}, i ∉ vs → (wipe σ vs)[i]? = σ[i]?
  | [], _ => rfl
  | v :: vs, h => by
    unfold wipe
    rw [List.getElem?_set_ne (fun z => h (by simp [z])), wipe_get fun z => h (by simp [z])]
theorem wipe_in {σ : St} {i : Nat} : ∀ {vs : List Nat}, i ∈ vs → i < σ.length → (wipe σ vs)[i]? = some none
  | v :: vs, h, hl => by
    unfold wipe
    by_cases e : v = i
    · rw [e, List.getElem?_set_self (by rw [wipe_length]; exact hl)]
    · rw [List.getElem?_set_ne e]
      exact wipe_in ((List.mem_cons.mp h).resolve_left fun z => e z.symm) hl
theorem wipe_ext {σ τ : St} {vs : List Nat} (hl : σ.length = τ.length) (h : ∀ i, i ∉ vs → σ[i]? = τ[i]?) : wipe σ vs = wipe τ vs := by
  apply List.ext_getElem?
  intro i
  by_cases hi : i ∈ vs
  · by_cases hh : i < σ.length
    · rw [wipe_in hi hh, wipe_in hi (hl ▸ hh)]
    · rw [List.getElem?_eq_none (by rw [wipe_length]; omega), List.getElem?_eq_none (by rw [wipe_length]; omega)]
  · rw [wipe_get hi, wipe_get hi]; exact h i hi
theorem wipe_set {σ : St} {i : Nat} {v : Option V} {vs : List Nat} (h : i ∈ vs) : wipe (σ.set i v) vs = wipe σ vs := wipe_ext (by simp) fun j hj => List.getElem?_set_ne (fun z => hj (by rw [← z]; exact h))
theorem wipe_wipe {σ : St} {vs : List Nat} : wipe (wipe σ vs) vs = wipe σ vs := wipe_ext (wipe_length σ vs) fun i hi => wipe_get hi
theorem tw_name {i : Nat} {vs : List Nat} (h : vs.contains i = true) : TgW vs (gName i) (tgName i) C := fun H μ σ ρ S x d ρ' Q R rd e q => by
  cases e
  exact q _ (R.set (show RT C H μ x (.im d) from rd) fun a o _ => Bool.noConfusion o) (wipe_set (by simpa using h))
theorem tws_nil {vs : List Nat} : TgsW vs gNil [] C := fun H μ σ ρ S xs ds ρ' Q R rd e q => by
  cases rd with
  | nil => cases e; exact ⟨rfl, q σ R rfl⟩
  | cons _ _ => cases e
theorem tws_cons {vs : List Nat} {g : TG} {gs : TGs} {t : Tgt} {ts : List Tgt} (h : TgW vs g t C) (hs : TgsW vs gs ts C) : TgsW vs (gCons g gs) (t :: ts) C := fun H μ σ ρ S xs ds ρ' Q R rd e q => by
  cases rd with
  | nil => cases e
  | @cons v us d ds r rs =>
    unfold tgEach at e
    cases e1 : t d ρ with
    | none => rw [e1] at e; cases e
    | some ρ1 =>
      rw [e1] at e
      refine ⟨v, us, rfl, h H μ σ ρ S v d ρ1 _ R r e1 fun σ1 R1 s1 => ?_⟩
      exact hs H μ σ1 ρ1 S us ds ρ' Q R1 rs e fun σ2 R2 s2 => q σ2 R2 (s2.trans s1)
theorem tw_tup {vs : List Nat} {gs : TGs} {ts : List Tgt} {n : Nat} (hn : n = ts.length) (h : TgsW vs gs ts C) : TgW vs (gTup C.K n gs) (tgTup ts) C := fun H μ σ ρ S x d ρ' Q R rd e q => by
  unfold tgTup at e
  split at e
  · rename_i ds
    split at e
    · rename_i hl
      cases rd with
      | @tup a us _ hq r z => exact ⟨a, us, rfl, hq, by rw [r.length, hl, hn], h H μ σ ρ S us ds ρ' Q R r e q⟩
    · cases e
  · cases e
/-- the block's own slots forgotten -/
def wipeE (ρ : Ev) : List Nat → Ev
  | [] => ρ
  | v :: vs => (wipeE ρ vs).set v none
theorem wipeE_length (ρ : Ev) : ∀ vs : List Nat, (wipeE ρ vs).length = ρ.length
  | [] => rfl
  | v :: vs => by unfold wipeE; rw [List.length_set, wipeE_length ρ vs]
theorem wipeE_some {ρ : Ev} {i : Nat} {x : T} : ∀ {vs : List Nat}, (wipeE ρ vs)[i]? = some (some x) → ρ[i]? = some (some x) ∧ i ∉ vs
  | [], h => ⟨h, by simp⟩
  | v :: vs, h => by
    unfold wipeE at h
    by_cases hi : v = i
    · subst hi
      by_cases hv : v < (wipeE ρ vs).length
      · rw [List.getElem?_set_self hv] at h; cases h
      · rw [List.getElem?_eq_none (by simpa using hv)] at h; cases h
    · rw [List.getElem?_set_ne hi] at h
      obtain ⟨h1, h2⟩ := wipeE_some h
      exact ⟨h1, by simp only [List.mem_cons, not_or]; exact ⟨fun e => hi e.symm, h2⟩⟩
theorem Rel.wipe (R : Rel C H μ σ ρ S) (vs : List Nat) : Rel C H μ (L2.wipe σ vs) (wipeE ρ vs) S ∧ ∀ a, Own (L2.wipe σ vs) (wipeE ρ vs) a → Own σ ρ a := by
  have key : ∀ i t, (wipeE ρ vs)[i]? = some (some t) → ρ[i]? = some (some t) ∧ (L2.wipe σ vs)[i]? = σ[i]? := fun i t h => by
    obtain ⟨h1, h2⟩ := wipeE_some h
    exact ⟨h1, wipe_get h2⟩
  refine ⟨⟨R.sr, by rw [wipe_length, wipeE_length, R.len], fun i t h => ?_, fun i j t u a h1 h2 h3 h4 h5 h6 => ?_⟩, fun a ⟨i, t, h1, h2, h3⟩ => ?_⟩
  · obtain ⟨h1, h2⟩ := key i t h
    rw [h2]; exact R.at_ i t h1
  · obtain ⟨k1, k2⟩ := key i t h1
    obtain ⟨k3, k4⟩ := key j u h3
    exact R.apart i j t u a k1 h2 k3 h4 (k2 ▸ h5) (k4 ▸ h6)
  · obtain ⟨k1, k2⟩ := key i t h1
    exact ⟨i, t, k1, h2, k2 ▸ h3⟩
/-- a test of a comprehension: none, or one -/
def yesM : M := fun _ S => .ok (.im (.bl true)) S
abbrev noX : XK := fun _ _ _ => False
def DTs (X : Cx) (C : Cn) (es : List Expr) (m : M) : Prop := PTs X es (tDT C noX m)
theorem dts_nil : DTs X C [] yesM := ⟨fun pins s σ H Q I hw => by
  obtain ⟨ρ, μ, S, R, p⟩ := hw
  exact pts_nil.run pins s σ H Q I (p H μ Ext.refl R.sr)⟩
theorem dts_one {c : Expr} {m : M} (h : DT X C noX c m) : DTs X C [c] m := pts_one h
def lcL (get : Get) (tgt : Tgt) (tt elt : M) (ρ : Ev) : Nat → Nat → List DL.D → Sto → Res T
  | 0, i, acc, S => (match get ρ S with
    | some ds => (match ds[i]? with
      | none => .ok (.vl acc) S
      | some _ => .stuck)
    | none => .stuck)
  | k + 1, i, acc, S => (match get ρ S with
    | none => .stuck
    | some ds => (match ds[i]? with
      | none => .ok (.vl acc) S
      | some d => (match tgt d ρ with
        | none => .stuck
        | some ρ1 => (match tt ρ1 S with
          | .ok (.im (.bl true)) S1 => (match elt ρ1 S1 with
            | .ok (.im x) S2 => if acc.length < line then lcL get tgt tt elt ρ k (i + 1) (acc ++ [x]) S2 else .stuck
            | _ => .stuck)
          | .ok (.im (.bl false)) S1 => lcL get tgt tt elt ρ k (i + 1) acc S1
          | _ => .stuck))))
def lcM (sm : SM) (vs : List Nat) (tgt : Tgt) (tt elt : M) : M := fun ρ S => match sm ρ S with
  | .ok gk S1 => lcL gk.1 tgt tt elt (wipeE ρ vs) gk.2 0 [] S1
  | .exc e S1 => .exc e S1
  | .stuck => .stuck
theorem rd_lc {sm : SM} {vs : List Nat} {g : TG} {tgt : Tgt} {tt elt : M} (tg : TgW vs g tgt C) {Q : VK} (q : tD C W b (lcM sm vs tgt tt elt) σ H Q) : tLc (tI C W false sm) g (tDT C noX tt) (tD C noX b1 elt) vs σ H Q := by
  obtain ⟨ρ, μ, S, R, p⟩ := q
  refine ⟨ρ, μ, S, R, ?_⟩
  unfold lcM at p
  cases e : sm ρ S with
  | exc x S1 => rw [e] at p; exact p
  | stuck => rw [e] at p; exact p
  | ok gk S1 =>
    rw [e] at p
    dsimp only at p
    intro J I H1 μ1 e1 s1 src i1 D hD
    have R1 := R.ext e1 s1
    obtain ⟨Rw, ow⟩ := R1.wipe vs
    have iw : I H1 μ1 (L2.wipe σ vs) (wipeE ρ vs) := src.step _ _ _ _ _ _ _ _ _ _ i1 R1 Ext.refl Rw fun a z => .inl (ow a z)
    have x0 : Ext C no H1 μ1 (upd H1 D (.lst [])) μ1 := Ext.laid hD
    have s0 : SR C (upd H1 D (.lst [])) μ1 S1 := s1.laid hD
    have it : ∀ {H' μ' S'}, Ext C no H1 μ1 H' μ' → Rel C H' μ' (L2.wipe σ vs) (wipeE ρ vs) S' → I H' μ' (L2.wipe σ vs) (wipeE ρ vs) := fun {H' μ' S'} x R' => src.step _ _ _ _ _ _ _ _ _ _ iw Rw (x.mono fun _ z => no_or z) R' fun a z => .inl z
    refine ⟨fun i m H' => ∃ μ' S' acc us, Ext C no H1 μ1 H' μ' ∧ Rel C H' μ' (L2.wipe σ vs) (wipeE ρ vs) S' ∧ H' D = some (.lst us) ∧ RDs C H' μ' us acc ∧ D ∉ μ' ∧ acc.length ≤ line ∧ PostE C W b H μ Q (lcL gk.1 tgt tt elt (wipeE ρ vs) m i acc S'),
      ⟨gk.2, μ1, S1, [], [], x0, Rw.ext x0 s0, upd_same .., .nil, s1.fresh hD, Nat.zero_le _, p⟩, ?_⟩
    rintro i m H2 ⟨μ2, S2, acc, us, x2, R2, hd, ru, nd, zl, p2⟩
    have i2 := it x2 R2
    have stop : ∀ ds, gk.1 (wipeE ρ vs) S2 = some ds → ds[i]? = none → PostE C W b H μ Q (.ok (.vl acc) S2) → J.stop i H2 ∧ Q (.ref D) H2 := fun ds g1 g2 p3 =>
      ⟨src.done _ _ _ _ _ _ _ i2 R2 g1 g2, p3 _ H2 μ2 (e1.then0 x2) ⟨D, us, rfl, hd, ru, nd, zl⟩ (fun _ _ => ⟨D, rfl, none_back e1 hD⟩) R2.sr⟩
    cases m with
    | zero =>
      unfold lcL at p2
      cases g1 : gk.1 (wipeE ρ vs) S2 with
      | none => rw [g1] at p2; exact p2.elim
      | some ds =>
        rw [g1] at p2
        dsimp only at p2
        cases g2 : ds[i]? with
        | none => rw [g2] at p2; exact .inl (stop ds g1 g2 p2)
        | some d => rw [g2] at p2; exact p2.elim
    | succ m =>
      unfold lcL at p2
      cases g1 : gk.1 (wipeE ρ vs) S2 with
      | none => rw [g1] at p2; exact p2.elim
      | some ds =>
        rw [g1] at p2
        dsimp only at p2
        cases g2 : ds[i]? with
        | none => rw [g2] at p2; exact .inl (stop ds g1 g2 p2)
        | some d =>
          rw [g2] at p2
          dsimp only at p2
          cases g3 : tgt d (wipeE ρ vs) with
          | none => rw [g3] at p2; exact p2.elim
          | some ρ1 =>
            rw [g3] at p2
            dsimp only at p2
            obtain ⟨go, yl⟩ := src.item _ _ _ _ _ _ _ _ i2 R2 g1 g2
            refine .inr ⟨go, fun H' => ∃ μ' S' acc us, Ext C no H1 μ1 H' μ' ∧ Rel C H' μ' (L2.wipe σ vs) (wipeE ρ vs) S' ∧ H' D = some (.lst us) ∧ RDs C H' μ' us acc ∧ D ∉ μ' ∧ acc.length ≤ line ∧ PostE C W b H μ Q (lcL gk.1 tgt tt elt (wipeE ρ vs) m (i + 1) acc S'), fun H' h => ⟨m, Nat.lt_succ_self m, h⟩, fun x H3 y => ?_⟩
            obtain ⟨x3, s3, rd⟩ := yl x H3 y
            have R3 := R2.ext x3 s3
            refine tg H3 μ2 _ _ S2 x d ρ1 _ R3 rd g3 fun σ1 R4 wp => ⟨wp.trans wipe_wipe, ?_⟩
            -- what goes on behind
            have on : ∀ {H4 μ4 S4}, Ext C no H3 μ2 H4 μ4 → SR C H4 μ4 S4 → Ext C no H2 μ2 H4 μ4 ∧ Rel C H4 μ4 (L2.wipe σ vs) (wipeE ρ vs) S4 := fun {H4 μ4 S4} x4 s4 => by
              have x24 := x3.then0 x4
              exact ⟨x24, R2.ext x24 s4⟩
            refine ⟨ρ1, μ2, S2, R4, ?_⟩
            cases g4 : tt ρ1 S2 with
            | exc z S4 => rw [g4] at p2; exact p2.elim
            | stuck => rw [g4] at p2; exact p2.elim
            | ok t S4 =>
              rw [g4] at p2
              cases t with
              | im dt =>
                cases dt with
                | bl k =>
                  intro H4 μ4 x4 s4
                  cases k with
                  | false =>
                    dsimp only at p2
                    obtain ⟨x24, R5⟩ := on x4 s4
                    rw [if_neg (by decide)]
                    exact ⟨μ4, S4, acc, us, x2.then0 x24, R5, x24.keep D _ hd rfl nd id, ru.ext x24, x24.notin hd rfl nd id, zl, p2⟩
                  | true =>
                    dsimp only at p2
                    rw [if_pos rfl]
                    refine ⟨ρ1, μ4, S4, R4.ext x4 s4, ?_⟩
                    cases g5 : elt ρ1 S4 with
                    | exc z S5 => rw [g5] at p2; exact p2.elim
                    | stuck => rw [g5] at p2; exact p2.elim
                    | ok u S5 =>
                      rw [g5] at p2
                      cases u with
                      | im du =>
                        dsimp only at p2
                        split at p2
                        · rename_i hz
                          intro w H5 μ5 x5 rw5 _ s5
                          obtain ⟨x25, R5⟩ := on (x4.then0 x5) s5
                          have hd5 := x25.keep D _ hd rfl nd id
                          have nd5 := x25.notin hd rfl nd id
                          refine ⟨us, hd5, by rw [ru.length, line_eq]; exact hz, ?_⟩
                          -- the list at D grows
                          have x6 : Ext C (fun b => b = D) H5 μ5 (upd H5 D (.lst (us ++ [w]))) μ5 := Ext.changed (.inr rfl) hd5 (fun ws q => by rcases q with q | ⟨o, q⟩ <;> (rw [hd5] at q; cases q)) rfl rfl
                          have s6 : SR C (upd H5 D (.lst (us ++ [w]))) μ5 S5 := R5.sr.ext x6 fun a ha => upd_ne fun z => nd5 (z ▸ ha)
                          have x7 : Ext C no H1 μ1 (upd H5 D (.lst (us ++ [w]))) μ5 := (x2.then0 x25).trans x6 fun b eb => .inr (by rw [eb]; exact .of hD)
                          refine ⟨μ5, S5, acc ++ [du], us ++ [w], x7, Rw.ext x7 s6, upd_same .., ((ru.ext x25).append (.one (show RD C H5 μ5 w du from rw5))).ext x6, nd5, by rw [List.length_append]; exact hz, p2⟩
                        · exact p2.elim
                      | _ => exact p2.elim
                | _ => exact p2.elim
              | _ => exact p2.elim
end
end DL

/-! The data layer: comprehensions of dicts; stores of comprehensions; dicts that are walked. -/
namespace DL
open PySem PySem.Spec L2

section
variable {C : Cn} {W : XK} {X : Cx} {H H' : Hp} {μ μ' : List Addr} {σ σ' : St} {ρ ρ' : Ev} {S S' : Sto} {o b b1 b2 : Bool}
def dcL (get : Get) (tgt : Tgt) (tt key elt : M) (ρ : Ev) : Nat → Nat → List (Key × DL.D) → Sto → Res T
  | 0, i, acc, S => (match get ρ S with
    | some ds => (match ds[i]? with
      | none => .ok (.vd acc) S
      | some _ => .stuck)
    | none => .stuck)
  | k + 1, i, acc, S => (match get ρ S with
    | none => .stuck
    | some ds => (match ds[i]? with
      | none => .ok (.vd acc) S
      | some d => (match tgt d ρ with
        | none => .stuck
        | some ρ1 => (match tt ρ1 S with
          | .ok (.im (.bl true)) S1 => (match key ρ1 S1 with
            | .ok y S2 => (match elt ρ1 S2 with
              | .ok (.im x) S3 => (match keyD y with
                | some kk => if acc.length < line then dcL get tgt tt key elt ρ k (i + 1) (putD acc kk x) S3 else .stuck
                | none => .stuck)
              | _ => .stuck)
            | _ => .stuck)
          | .ok (.im (.bl false)) S1 => dcL get tgt tt key elt ρ k (i + 1) acc S1
          | _ => .stuck))))
def dcM (sm : SM) (vs : List Nat) (tgt : Tgt) (tt key elt : M) : M := fun ρ S => match sm ρ S with
  | .ok gk S1 => dcL gk.1 tgt tt key elt (wipeE ρ vs) gk.2 0 [] S1
  | .exc e S1 => .exc e S1
  | .stuck => .stuck
theorem rd_dc {sm : SM} {vs : List Nat} {g : TG} {tgt : Tgt} {tt key elt : M} (tg : TgW vs g tgt C) {Q : VK} (q : tD C W b (dcM sm vs tgt tt key elt) σ H Q) : tDc (tI C W false sm) g (tDT C noX tt) (tD C noX b1 key) (tD C noX b2 elt) vs σ H Q := by
  obtain ⟨ρ, μ, S, R, p⟩ := q
  refine ⟨ρ, μ, S, R, ?_⟩
  unfold dcM at p
  cases e : sm ρ S with
  | exc x S1 => rw [e] at p; exact p
  | stuck => rw [e] at p; exact p
  | ok gk S1 =>
    rw [e] at p
    dsimp only at p
    intro J I H1 μ1 e1 s1 src i1 D hD
    have R1 := R.ext e1 s1
    obtain ⟨Rw, ow⟩ := R1.wipe vs
    have iw : I H1 μ1 (L2.wipe σ vs) (wipeE ρ vs) := src.step _ _ _ _ _ _ _ _ _ _ i1 R1 Ext.refl Rw fun a z => .inl (ow a z)
    have x0 : Ext C no H1 μ1 (upd H1 D (.dK [])) μ1 := Ext.laid hD
    have s0 : SR C (upd H1 D (.dK [])) μ1 S1 := s1.laid hD
    have it : ∀ {H' μ' S'}, Ext C no H1 μ1 H' μ' → Rel C H' μ' (L2.wipe σ vs) (wipeE ρ vs) S' → I H' μ' (L2.wipe σ vs) (wipeE ρ vs) := fun {H' μ' S'} x R' => src.step _ _ _ _ _ _ _ _ _ _ iw Rw (x.mono fun _ z => no_or z) R' fun a z => .inl z
    refine ⟨fun i m H' => ∃ μ' S' acc us, Ext C no H1 μ1 H' μ' ∧ Rel C H' μ' (L2.wipe σ vs) (wipeE ρ vs) S' ∧ H' D = some (.dK us) ∧ KD C H' μ' us acc ∧ D ∉ μ' ∧ acc.length ≤ line ∧ (acc.map (·.1)).Nodup ∧ PostE C W b H μ Q (dcL gk.1 tgt tt key elt (wipeE ρ vs) m i acc S'),
      ⟨gk.2, μ1, S1, [], [], x0, Rw.ext x0 s0, upd_same .., .nil, s1.fresh hD, Nat.zero_le _, List.nodup_nil, p⟩, ?_⟩
    rintro i m H2 ⟨μ2, S2, acc, us, x2, R2, hd, ru, nd, zl, nn, p2⟩
    have i2 := it x2 R2
    have stop : ∀ ds, gk.1 (wipeE ρ vs) S2 = some ds → ds[i]? = none → PostE C W b H μ Q (.ok (.vd acc) S2) → J.stop i H2 ∧ Q (.ref D) H2 := fun ds g1 g2 p3 =>
      ⟨src.done _ _ _ _ _ _ _ i2 R2 g1 g2, p3 _ H2 μ2 (e1.then0 x2) ⟨D, us, rfl, hd, ru, nd, zl, nn⟩ (fun _ _ => ⟨D, rfl, none_back e1 hD⟩) R2.sr⟩
    cases m with
    | zero =>
      unfold dcL at p2
      cases g1 : gk.1 (wipeE ρ vs) S2 with
      | none => rw [g1] at p2; exact p2.elim
      | some ds =>
        rw [g1] at p2
        dsimp only at p2
        cases g2 : ds[i]? with
        | none => rw [g2] at p2; exact .inl (stop ds g1 g2 p2)
        | some d => rw [g2] at p2; exact p2.elim
    | succ m =>
      unfold dcL at p2
      cases g1 : gk.1 (wipeE ρ vs) S2 with
      | none => rw [g1] at p2; exact p2.elim
      | some ds =>
        rw [g1] at p2
        dsimp only at p2
        cases g2 : ds[i]? with
        | none => rw [g2] at p2; exact .inl (stop ds g1 g2 p2)
        | some d =>
          rw [g2] at p2
          dsimp only at p2
          cases g3 : tgt d (wipeE ρ vs) with
          | none => rw [g3] at p2; exact p2.elim
          | some ρ1 =>
            rw [g3] at p2
            dsimp only at p2
            obtain ⟨go, yl⟩ := src.item _ _ _ _ _ _ _ _ i2 R2 g1 g2
            refine .inr ⟨go, fun H' => ∃ μ' S' acc us, Ext C no H1 μ1 H' μ' ∧ Rel C H' μ' (L2.wipe σ vs) (wipeE ρ vs) S' ∧ H' D = some (.dK us) ∧ KD C H' μ' us acc ∧ D ∉ μ' ∧ acc.length ≤ line ∧ (acc.map (·.1)).Nodup ∧ PostE C W b H μ Q (dcL gk.1 tgt tt key elt (wipeE ρ vs) m (i + 1) acc S'), fun H' h => ⟨m, Nat.lt_succ_self m, h⟩, fun x H3 y => ?_⟩
            obtain ⟨x3, s3, rd⟩ := yl x H3 y
            have R3 := R2.ext x3 s3
            refine tg H3 μ2 _ _ S2 x d ρ1 _ R3 rd g3 fun σ1 R4 wp => ⟨wp.trans wipe_wipe, ?_⟩
            -- what goes on behind
            have on : ∀ {H4 μ4 S4}, Ext C no H3 μ2 H4 μ4 → SR C H4 μ4 S4 → Ext C no H2 μ2 H4 μ4 ∧ Rel C H4 μ4 (L2.wipe σ vs) (wipeE ρ vs) S4 := fun {H4 μ4 S4} x4 s4 => by
              have x24 := x3.then0 x4
              exact ⟨x24, R2.ext x24 s4⟩
            refine ⟨ρ1, μ2, S2, R4, ?_⟩
            cases g4 : tt ρ1 S2 with
            | exc z S4 => rw [g4] at p2; exact p2.elim
            | stuck => rw [g4] at p2; exact p2.elim
            | ok t S4 =>
              rw [g4] at p2
              cases t with
              | im dt =>
                cases dt with
                | bl k =>
                  intro H4 μ4 x4 s4
                  cases k with
                  | false =>
                    dsimp only at p2
                    obtain ⟨x24, R5⟩ := on x4 s4
                    rw [if_neg (by decide)]
                    exact ⟨μ4, S4, acc, us, x2.then0 x24, R5, x24.keep D _ hd rfl nd id, ru.ext x24, x24.notin hd rfl nd id, zl, nn, p2⟩
                  | true =>
                    dsimp only at p2
                    rw [if_pos rfl]
                    refine ⟨ρ1, μ4, S4, R4.ext x4 s4, ?_⟩
                    cases g5 : key ρ1 S4 with
                    | exc z S5 => rw [g5] at p2; exact p2.elim
                    | stuck => rw [g5] at p2; exact p2.elim
                    | ok y S5 =>
                      rw [g5] at p2
                      dsimp only at p2
                      intro wk H5 μ5 x5 rk _ s5
                      refine ⟨ρ1, μ5, S5, (R4.ext x4 s4).ext x5 s5, ?_⟩
                      cases g6 : elt ρ1 S5 with
                      | exc z S6 => rw [g6] at p2; exact p2.elim
                      | stuck => rw [g6] at p2; exact p2.elim
                      | ok u S6 =>
                        rw [g6] at p2
                        cases u with
                        | im du =>
                          dsimp only at p2
                          cases g7 : keyD y with
                          | none => rw [g7] at p2; exact p2.elim
                          | some kk =>
                            rw [g7] at p2
                            dsimp only at p2
                            split at p2
                            · rename_i hz
                              intro w H6 μ6 x6 rw6 _ s6
                              obtain ⟨x26, R6⟩ := on ((x4.then0 x5).then0 x6) s6
                              have hd6 := x26.keep D _ hd rfl nd id
                              have nd6 := x26.notin hd rfl nd id
                              refine ⟨us, kk, keyD_ok rk g7, hd6, by rw [Paired.len ru, line_eq]; exact hz, ?_⟩
                              have x8 : Ext C (fun b => b = D) H6 μ6 (upd H6 D (.dK (putK us kk w))) μ6 := Ext.changed (.inr rfl) hd6 (fun ws q => by rcases q with q | ⟨o, q⟩ <;> (rw [hd6] at q; cases q)) rfl rfl
                              have s8 : SR C (upd H6 D (.dK (putK us kk w))) μ6 S6 := R6.sr.ext x8 fun a ha => upd_ne fun z => nd6 (z ▸ ha)
                              have x9 : Ext C no H1 μ1 (upd H6 D (.dK (putK us kk w))) μ6 := (x2.then0 x26).trans x8 fun b eb => .inr (by rw [eb]; exact .of hD)
                              exact ⟨μ6, S6, putD acc kk du, putK us kk w, x9, Rw.ext x9 s8, upd_same .., (KD.put (show RD C H6 μ6 w du from rw6) (ru.ext x26) nn).ext x8, nd6, Nat.le_trans putD_len hz, putD_nd nn, p2⟩
                            · exact p2.elim
                        | _ => exact p2.elim
                | _ => exact p2.elim
              | _ => exact p2.elim

/-! ### the rules -/
theorem de_lc {elt tg iter : Expr} {ifs : List Expr} {scope : Scope} {own : List (Str × Nat)} {pos : Pos} {sm : SM} {g : TG} {tgt : Tgt} {mt me : M} (hc : X.calm = true) (hN : X.N.Nodup) (hi : DI X C W false tg iter sm) (ok : BlkOk X.N X.env.scope scope own)
    (hg : ∀ (s : Shared) (H : Hp) (L : Addr) (cl : List (Str × Addr)) (fp : List Addr), PG (X.blk s H scope (compEnvC scope cl L X.env) fp) tg g) (tw : TgW (own.map (·.2)) g tgt C) (ht : ∀ (s : Shared) (H : Hp) (L : Addr) (cl : List (Str × Addr)) (fp : List Addr), DTs (X.blk s H scope (compEnvC scope cl L X.env) fp) C ifs mt)
    (he : ∀ (s : Shared) (H : Hp) (L : Addr) (cl : List (Str × Addr)) (fp : List Addr), DE (X.blk s H scope (compEnvC scope cl L X.env) fp) C noX b1 elt me) (hs : ∀ x, foldedSetIterable iter X.env x = pure x) :
    DE X C W b (.ListComp elt [⟨tg, iter, ifs, 0⟩] scope pos) (lcM sm (own.map (·.2)) tgt mt me) := impE (pe_lc hc hN hi ok hg ht he hs) fun σ H Q q => rd_lc tw q
theorem ds_setLc {i : Nat} {y : Str} {py : Pos} {elt tg iter : Expr} {ifs : List Expr} {scope : Scope} {own : List (Str × Nat)} {pos spos : Pos} {sm : SM} {g : TG} {tgt : Tgt} {mt me : M} (hc : X.calm = true) (hN : X.N.Nodup) (hy : X.N[i]? = some y) (hyl : X.env.scope.names.lookup y = some .local)
    (hsw : swapsWith (.ListComp elt [⟨tg, iter, ifs, 0⟩] scope pos) (some (.Name y py)) spos.line X.env = pure true) (hi : DI X C W false tg iter sm) (ok : BlkOk X.N X.env.scope scope own)
    (hg : ∀ (s : Shared) (H : Hp) (L : Addr) (cl : List (Str × Addr)) (fp : List Addr), PG (X.blk s H scope (compEnvC scope cl L X.env) fp) tg g) (tw : TgW (own.map (·.2)) g tgt C) (ht : ∀ (s : Shared) (H : Hp) (L : Addr) (cl : List (Str × Addr)) (fp : List Addr), DTs (X.blk s H scope (compEnvC scope cl L X.env) fp) C ifs mt)
    (he : ∀ (s : Shared) (H : Hp) (L : Addr) (cl : List (Str × Addr)) (fp : List Addr), DE (X.blk s H scope (compEnvC scope cl L X.env) fp) C noX b1 elt me) (hs : ∀ x, foldedSetIterable iter X.env x = pure x) :
    DS X C W (.Assign [.Name y py] (.ListComp elt [⟨tg, iter, ifs, 0⟩] scope pos) spos) (setM i (lcM sm (own.map (·.2)) tgt mt me)) := impS (ps_setLc hc hN hy hyl hsw hi ok hg ht he hs) fun D σ H q => rd_lc tw (rd_set q)
/-- the new list comes to the store -/
theorem rd_setE {i : Nat} {m : M} {D : Ends} {σ : St} {H : Hp} (q : tS C W (setM i (escM m)) D σ H) : tAsg (tD C W false m) (gName i) D σ H := by
  obtain ⟨ρ, μ, S, R, p⟩ := q
  refine ⟨ρ, μ, S, R, ?_⟩
  unfold setM bindS escM bind at p
  cases e1 : m ρ S with
  | ok t S1 =>
    rw [e1] at p
    intro v H1 μ1 x1 rt f s
    obtain ⟨μ2, x2, r2, s2⟩ := esc_new x1 rt (f rfl) s
    obtain ⟨R2, sub⟩ := store_slot (i := i) R x2 (R.ext x2 s2) (show RT C H1 μ2 v (.im (esc t S1).1) from r2) fun o => Bool.noConfusion o
    exact p _ H1 μ2 (own_ext x2) R2 sub
  | exc x S1 => rw [e1] at p; exact fun cv dx H2 μ2 e2 s2 xr => p cv dx H2 μ2 (own_ext e2) s2 xr
  | stuck => rw [e1] at p; exact p
theorem ds_setLcE {i : Nat} {y : Str} {py : Pos} {elt tg iter : Expr} {ifs : List Expr} {scope : Scope} {own : List (Str × Nat)} {pos spos : Pos} {sm : SM} {g : TG} {tgt : Tgt} {mt me : M} (hc : X.calm = true) (hN : X.N.Nodup) (hy : X.N[i]? = some y) (hyl : X.env.scope.names.lookup y = some .local)
    (hsw : swapsWith (.ListComp elt [⟨tg, iter, ifs, 0⟩] scope pos) (some (.Name y py)) spos.line X.env = pure true) (hi : DI X C W false tg iter sm) (ok : BlkOk X.N X.env.scope scope own)
    (hg : ∀ (s : Shared) (H : Hp) (L : Addr) (cl : List (Str × Addr)) (fp : List Addr), PG (X.blk s H scope (compEnvC scope cl L X.env) fp) tg g) (tw : TgW (own.map (·.2)) g tgt C) (ht : ∀ (s : Shared) (H : Hp) (L : Addr) (cl : List (Str × Addr)) (fp : List Addr), DTs (X.blk s H scope (compEnvC scope cl L X.env) fp) C ifs mt)
    (he : ∀ (s : Shared) (H : Hp) (L : Addr) (cl : List (Str × Addr)) (fp : List Addr), DE (X.blk s H scope (compEnvC scope cl L X.env) fp) C noX b1 elt me) (hs : ∀ x, foldedSetIterable iter X.env x = pure x) :
    DS X C W (.Assign [.Name y py] (.ListComp elt [⟨tg, iter, ifs, 0⟩] scope pos) spos) (setM i (escM (lcM sm (own.map (·.2)) tgt mt me))) := impS (ps_setLc hc hN hy hyl hsw hi ok hg ht he hs) fun D σ H q => rd_lc tw (rd_setE q)
theorem de_dc {kx vx tg iter : Expr} {ifs : List Expr} {scope : Scope} {own : List (Str × Nat)} {pos : Pos} {sm : SM} {g : TG} {tgt : Tgt} {mt mk me : M} (hc : X.calm = true) (hN : X.N.Nodup) (hi : DI X C W false tg iter sm) (ok : BlkOk X.N X.env.scope scope own)
    (hg : ∀ (s : Shared) (H : Hp) (L : Addr) (cl : List (Str × Addr)) (fp : List Addr), PG (X.blk s H scope (compEnvC scope cl L X.env) fp) tg g) (tw : TgW (own.map (·.2)) g tgt C) (ht : ∀ (s : Shared) (H : Hp) (L : Addr) (cl : List (Str × Addr)) (fp : List Addr), DTs (X.blk s H scope (compEnvC scope cl L X.env) fp) C ifs mt)
    (hk : ∀ (s : Shared) (H : Hp) (L : Addr) (cl : List (Str × Addr)) (fp : List Addr), DE (X.blk s H scope (compEnvC scope cl L X.env) fp) C noX b1 kx mk)
    (he : ∀ (s : Shared) (H : Hp) (L : Addr) (cl : List (Str × Addr)) (fp : List Addr), DE (X.blk s H scope (compEnvC scope cl L X.env) fp) C noX b2 vx me) (hs : ∀ x, foldedSetIterable iter X.env x = pure x) :
    DE X C W b (.DictComp kx vx [⟨tg, iter, ifs, 0⟩] scope pos) (dcM sm (own.map (·.2)) tgt mt mk me) := impE (pe_dc hc hN hi ok hg ht hk he hs) fun σ H Q q => rd_dc tw q
end
end DL

/-! The data layer: a dict comprehension that is stored on its line; dicts that are walked; zip, enumerate. -/
namespace L2
open PySem PySem.Spec PyProof.Rows
theorem ps_setDc {X : Cx} {i : Nat} {y : Str} {py : Pos} {kx vx tg iter : Expr} {ifs : List Expr} {scope : Scope} {own : List (Str × Nat)} {pos spos : Pos} {wi : TI} {g : TG} {tt : TT} {tk tv : TE} (hc : X.calm = true) (hN : X.N.Nodup) (hy : X.N[i]? = some y) (hyl : X.env.scope.names.lookup y = some .local)
    (hsw : swapsWith (.DictComp kx vx [⟨tg, iter, ifs, 0⟩] scope pos) (some (.Name y py)) spos.line X.env = pure true) (hi : PI X tg iter wi) (ok : BlkOk X.N X.env.scope scope own)
    (hg : ∀ (s : Shared) (H : Hp) (C : Addr) (cl : List (Str × Addr)) (fp : List Addr), PG (X.blk s H scope (compEnvC scope cl C X.env) fp) tg g) (ht : ∀ (s : Shared) (H : Hp) (C : Addr) (cl : List (Str × Addr)) (fp : List Addr), PTs (X.blk s H scope (compEnvC scope cl C X.env) fp) ifs tt)
    (hk : ∀ (s : Shared) (H : Hp) (C : Addr) (cl : List (Str × Addr)) (fp : List Addr), PE (X.blk s H scope (compEnvC scope cl C X.env) fp) kx tk)
    (he : ∀ (s : Shared) (H : Hp) (C : Addr) (cl : List (Str × Addr)) (fp : List Addr), PE (X.blk s H scope (compEnvC scope cl C X.env) fp) vx tv) (hs : ∀ x, foldedSetIterable iter X.env x = pure x := by intro _; rfl) :
    PS X (.Assign [.Name y py] (.DictComp kx vx [⟨tg, iter, ifs, 0⟩] scope pos) spos) (tAsg (tDc wi g tt tk tv (own.map (·.2))) (gName i)) := by
  refine ⟨fun pins s σ H D I h => ?_⟩
  rw [exec_Assign_Name_used _ _ _ _ hsw]
  refine wpAny_bind (wpAny_standAt (wpAny_bind ?_))
  show wpAny _ X.A (do let _ ← comprehension (.DictComp kx vx [⟨tg, iter, ifs, 0⟩] scope pos) scope X.env (firstIterPos [⟨tg, iter, ifs, 0⟩] pos) newDict false (eval iter X.env) (some (assign (.Name y py) X.env))) _ _ s
  have h : tDc wi g tt tk tv (own.map (·.2)) σ H (fun x H1 => gName i x σ H1 D.nx) := h
  refine wpAny_bind (thn (dc_core (Qf := fun _ s' => SP X pins D .next s') hc hN I hi ok hg ht hk he hs h fun L C s' m H' I' q hn f => ?_) fun _ s' hq => wpAny_pure (wpAny_pure hq))
  show wpAny _ _ (assign (.Name y py) X.env (.ref L)) _ _ _
  refine wpAny_assign_Name (store_ok2 (v := V.ref L) I' hN hy (.inl hyl) rfl (fun s2 I2 ⟨a, sb, ha⟩ => ?_) (.inr hyl))
  obtain ⟨f0, f1, f2, f3, f4, f5⟩ := f
  have haC : C ≠ a := by
    rcases ha with z | z
    · rw [z]; exact f1
    · exact fun e => f4 y a z e.symm
  refine ⟨m, hn.sameBut sb haC, fun h3 sb3 => ?_⟩
  exact ⟨_, H', I2.turned (t' := s2.toks) (fun b o hb e => (sb3.2 b hb).trans e) f0 f1 f3 f4 f5, q⟩
end L2
namespace DL
open PySem PySem.Spec L2
section
variable {C : Cn} {W : XK} {X : Cx} {H H' : Hp} {μ μ' : List Addr} {σ σ' : St} {ρ ρ' : Ev} {S S' : Sto} {o b b1 b2 : Bool}
theorem ds_setDc {i : Nat} {y : Str} {py : Pos} {kx vx tg iter : Expr} {ifs : List Expr} {scope : Scope} {own : List (Str × Nat)} {pos spos : Pos} {sm : SM} {g : TG} {tgt : Tgt} {mt mk me : M} (hc : X.calm = true) (hN : X.N.Nodup) (hy : X.N[i]? = some y) (hyl : X.env.scope.names.lookup y = some .local)
    (hsw : swapsWith (.DictComp kx vx [⟨tg, iter, ifs, 0⟩] scope pos) (some (.Name y py)) spos.line X.env = pure true) (hi : DI X C W false tg iter sm) (ok : BlkOk X.N X.env.scope scope own)
    (hg : ∀ (s : Shared) (H : Hp) (L : Addr) (cl : List (Str × Addr)) (fp : List Addr), PG (X.blk s H scope (compEnvC scope cl L X.env) fp) tg g) (tw : TgW (own.map (·.2)) g tgt C) (ht : ∀ (s : Shared) (H : Hp) (L : Addr) (cl : List (Str × Addr)) (fp : List Addr), DTs (X.blk s H scope (compEnvC scope cl L X.env) fp) C ifs mt)
    (hk : ∀ (s : Shared) (H : Hp) (L : Addr) (cl : List (Str × Addr)) (fp : List Addr), DE (X.blk s H scope (compEnvC scope cl L X.env) fp) C noX b1 kx mk)
    (he : ∀ (s : Shared) (H : Hp) (L : Addr) (cl : List (Str × Addr)) (fp : List Addr), DE (X.blk s H scope (compEnvC scope cl L X.env) fp) C noX b2 vx me) (hs : ∀ x, foldedSetIterable iter X.env x = pure x) :
    DS X C W (.Assign [.Name y py] (.DictComp kx vx [⟨tg, iter, ifs, 0⟩] scope pos) spos) (setM i (dcM sm (own.map (·.2)) tgt mt mk me)) := impS (ps_setDc hc hN hy hyl hsw hi ok hg ht hk he hs) fun D σ H q => rd_dc tw (rd_set q)
theorem ds_setDcE {i : Nat} {y : Str} {py : Pos} {kx vx tg iter : Expr} {ifs : List Expr} {scope : Scope} {own : List (Str × Nat)} {pos spos : Pos} {sm : SM} {g : TG} {tgt : Tgt} {mt mk me : M} (hc : X.calm = true) (hN : X.N.Nodup) (hy : X.N[i]? = some y) (hyl : X.env.scope.names.lookup y = some .local)
    (hsw : swapsWith (.DictComp kx vx [⟨tg, iter, ifs, 0⟩] scope pos) (some (.Name y py)) spos.line X.env = pure true) (hi : DI X C W false tg iter sm) (ok : BlkOk X.N X.env.scope scope own)
    (hg : ∀ (s : Shared) (H : Hp) (L : Addr) (cl : List (Str × Addr)) (fp : List Addr), PG (X.blk s H scope (compEnvC scope cl L X.env) fp) tg g) (tw : TgW (own.map (·.2)) g tgt C) (ht : ∀ (s : Shared) (H : Hp) (L : Addr) (cl : List (Str × Addr)) (fp : List Addr), DTs (X.blk s H scope (compEnvC scope cl L X.env) fp) C ifs mt)
    (hk : ∀ (s : Shared) (H : Hp) (L : Addr) (cl : List (Str × Addr)) (fp : List Addr), DE (X.blk s H scope (compEnvC scope cl L X.env) fp) C noX b1 kx mk)
    (he : ∀ (s : Shared) (H : Hp) (L : Addr) (cl : List (Str × Addr)) (fp : List Addr), DE (X.blk s H scope (compEnvC scope cl L X.env) fp) C noX b2 vx me) (hs : ∀ x, foldedSetIterable iter X.env x = pure x) :
    DS X C W (.Assign [.Name y py] (.DictComp kx vx [⟨tg, iter, ifs, 0⟩] scope pos) spos) (setM i (escM (dcM sm (own.map (·.2)) tgt mt mk me))) := impS (ps_setDc hc hN hy hyl hsw hi ok hg ht hk he hs) fun D σ H q => rd_dc tw (rd_setE q)
/-! ### what holds where tuples and lists that nobody writes stay -/
structure Keep0 (C : Cn) (H : Hp) (H' : Hp) : Prop where
  tups : ∀ b vs, SqT C.K H b vs → SqT C.K H' b vs
  ros : ∀ b vs, RoL C.K H b vs → RoL C.K H' b vs
mutual
theorem RD.keep0 (e : Keep0 C H H') : ∀ {v : V} {d : D}, RD C H μ v d → RD C H' μ v d
  | _, _, .non => .non
  | _, _, .bl b => .bl b
  | _, _, .int i => .int i
  | _, _, .str x => .str x
  | _, _, .tup h t z => .tup (e.tups _ _ h) (RDs.keep0 e t) z
  | _, _, .ref h => .ref h
  | _, _, .kl h t z => .kl (e.ros _ _ h) (RDs.keep0 e t) z
  | _, _, .kd h f t z => .kd h f (RDs.keep0 e t) z
  | _, _, .fn h k => .fn h k
theorem RDs.keep0 (e : Keep0 C H H') : ∀ {vs : List V} {ds : List D}, RDs C H μ vs ds → RDs C H' μ vs ds
  | _, _, .nil => .nil
  | _, _, .cons r t => .cons (RD.keep0 e r) (RDs.keep0 e t)
end
theorem KD.keep0 (e : Keep0 C H H') {ps : List (Key × V)} {kvs : List (Key × D)} (k : KD C H μ ps kvs) : KD C H' μ ps kvs := Paired.mapP k fun _ _ h => ⟨h.1, h.2.keep0 e⟩
theorem FD.keep0 (e : Keep0 C H H') {ps : List (Str × V)} {kvs : List (Str × D)} (k : FD C H μ ps kvs) : FD C H' μ ps kvs := Paired.mapP k fun _ _ h => ⟨h.1, h.2.keep0 e⟩
theorem MOk.keep0 (e : Keep0 C H H') {a : Addr} (ha : H' a = H a) : ∀ {o : MO}, MOk C H μ a o → MOk C H' μ a o
  | .lst ds, ⟨vs, h, r, z⟩ => ⟨vs, by rw [ha]; exact h, r.keep0 e, z⟩
  | .dic kvs, ⟨ps, h, r, z⟩ => ⟨ps, by rw [ha]; exact h, r.keep0 e, z⟩
  | .ins c fs, ⟨A, dx, ps, hc, h, r, z⟩ => ⟨A, dx, ps, hc, by rw [ha]; exact h, r.keep0 e, z⟩
  | .fdic kvs, ⟨o, ps, h, r, z⟩ => ⟨o, ps, by rw [ha]; exact h, r.keep0 e, z⟩
/-- the dict at a is let go again -/
theorem keep0_unlock {a : Addr} {od : Obj} {ps : List (Key × V)} (h : H' a = some (.frz od (.dK ps))) : Keep0 C H' (upd H' a (.dK ps)) := by
  refine ⟨fun b vs q => ?_, fun b vs q => ?_⟩
  · rcases q with (q | ⟨u, q⟩) | q
    · exact .inl (.inl (by rw [upd_ne fun z => by rw [z, h] at q; cases q]; exact q))
    · exact .inl (.inr ⟨u, by rw [upd_ne fun z => by rw [z, h] at q; cases q]; exact q⟩)
    · exact .inr q
  · rcases q with ⟨u, q⟩ | q
    · exact .inl ⟨u, by rw [upd_ne fun z => by rw [z, h] at q; cases q]; exact q⟩
    · exact .inr q
theorem RT.unlock {a : Addr} {od : Obj} {ps : List (Key × V)} {v : V} {t : T} (h : H' a = some (.frz od (.dK ps))) (r : RT C H' μ' v t) : RT C (upd H' a (.dK ps)) μ' v t := by
  cases t with
  | im d => exact RD.keep0 (keep0_unlock h) r
  | vl ds =>
    obtain ⟨b, vs, e, hb, r, n, z⟩ := r
    exact ⟨b, vs, e, by rw [upd_ne fun z => by rw [z, h] at hb; cases hb]; exact hb, r.keep0 (keep0_unlock h), n, z⟩
  | vd ds =>
    obtain ⟨b, vs, e, hb, r, n, z⟩ := r
    exact ⟨b, vs, e, by rw [upd_ne fun z => by rw [z, h] at hb; cases hb]; exact hb, KD.keep0 (keep0_unlock h) r, n, z⟩
def notTX : HO → Bool
  | .tbl _ => false
  | .ext _ => false
  | _ => true
theorem tabs_upd {a : Addr} {u o : HO} {T : List (Addr × Str)} (h : H a = some u) (hu : notTX u = true) (t : LamX.Tabs T H) : LamX.Tabs T (upd H a o) := fun p hp => by
  obtain ⟨ps, t1, t2, t3⟩ := t p hp
  have ne : ∀ b w, H b = some w → notTX w = false → b ≠ a := fun b w e q z => by
    rw [z, h] at e
    cases e
    rw [hu] at q; cases q
  refine ⟨ps, by rw [upd_ne (ne _ _ t1 rfl)]; exact t1, t2, fun pos cv hc => ?_⟩
  obtain ⟨c, e1, e2⟩ := t3 pos cv hc
  exact ⟨c, e1, by rw [upd_ne (ne _ _ e2 rfl)]; exact e2⟩
theorem SR.unlock {a : Addr} {n : Nat} {od : Obj} {ps : List (Key × V)} {kvs : List (Key × D)} (h : H' a = some (.frz od (.dK ps))) (s : SR C H' μ' S') (hn : μ'[n]? = some a) (hS : S'[n]? = some (.fdic kvs)) : SR C (upd H' a (.dK ps)) μ' (S'.set n (.dic kvs)) := by
  refine ⟨by simp [s.len], s.nd, fun m b u h1 h2 => ?_, tabs_upd h rfl s.tabs⟩
  have hl := (List.getElem?_eq_some_iff.mp hn).1
  by_cases hm : m = n
  · subst hm
    rw [hn] at h1; cases h1
    rw [List.getElem?_set_self (by rw [← s.len]; exact hl)] at h2
    cases h2
    obtain ⟨o', ps', h3, r, z, nd⟩ := s.ok m a _ hn hS
    rw [h] at h3; cases h3
    exact ⟨ps, upd_same .., r.keep0 (keep0_unlock h), z, nd⟩
  · rw [List.getElem?_set_ne (Ne.symm hm)] at h2
    refine (s.ok m b u h1 h2).keep0 (keep0_unlock h) (upd_ne fun z => hm ?_)
    subst z
    exact ((List.getElem?_inj hl s.nd).mp (hn.trans h1.symm)).symm
theorem nw_lock {a c : Addr} {od : Obj} {ps : List (Key × V)} (h : Nw (upd H a (.frz od (.dK ps))) c) : Nw H c := fun o ho => by
  by_cases hba : c = a
  · have := h _ (by rw [hba, upd_same])
    cases this
  · exact h o (by rw [upd_ne hba]; exact ho)
theorem Ext.unlock {P : Addr → Prop} {a : Addr} {od : Obj} {ps : List (Key × V)} (ha : H a = some (.dK ps)) (hm : a ∈ μ) (e : Ext C P (upd H a (.frz od (.dK ps))) μ H' μ') : Ext C P H μ (upd H' a (.dK ps)) μ' := by
  have h' : H' a = some (.frz od (.dK ps)) := e.frz a _ _ (upd_same ..)
  have x1 : Ext C P H μ (upd H a (.frz od (.dK ps))) μ := Ext.changed (.inl hm) ha (fun us q => by rcases q with q | ⟨o, q⟩ <;> (rw [ha] at q; cases q)) rfl rfl
  have k := keep0_unlock (C := C) h'
  refine ⟨?_, fun b o h1 t h2 h3 => ?_, fun b vs h => k.tups _ _ (e.tups _ _ (x1.tups _ _ h)), fun b w u h => ?_, fun b o h t => ?_, fun t => tabs_upd h' rfl (e.tab (x1.tab t))⟩
  · obtain ⟨l, e1, e2⟩ := e.pre
    refine ⟨l, e1, fun b hb => ?_⟩
    rcases e2 b hb with z | z
    · exact .inl (nw_lock z)
    · exact .inr z
  · have hba : b ≠ a := fun z => h2 (z ▸ hm)
    rw [upd_ne hba]
    exact e.keep b o (by rw [upd_ne hba]; exact h1) t h2 h3
  · have hba : b ≠ a := fun z => by rw [z, ha] at h; cases h
    rw [upd_ne hba]
    exact e.frz b w u (by rw [upd_ne hba]; exact h)
  · by_cases hba : b = a
    · exact ⟨_, by rw [hba, upd_same], rfl⟩
    · rw [upd_ne hba]
      exact e.live b o (by rw [upd_ne hba]; exact h) t
theorem lock_start {i n : Nat} {kvs : List (Key × D)} (R : Rel C H μ σ ρ S) (e1 : ρ[i]? = some (some (.im (.ref n)))) (e2 : S[n]? = some (.dic kvs)) :
    ∃ a ps, μ[n]? = some a ∧ a ∈ μ ∧ H a = some (.dK ps) ∧ ∀ od, Rel C (upd H a (.frz od (.dK ps))) μ σ ρ (S.set n (.fdic kvs)) := by
  obtain ⟨v, hv, r⟩ := R.at_ i _ e1
  cases r with
  | @ref _ a hn =>
    obtain ⟨ps, h, r, z, nd⟩ := R.sr.ok _ _ _ hn e2
    refine ⟨a, ps, hn, List.mem_of_getElem? hn, h, fun od => ?_⟩
    have x1 : Ext C no H μ (upd H a (.frz od (.dK ps))) μ := Ext.changed (.inl (List.mem_of_getElem? hn)) h (fun us q => by rcases q with q | ⟨o, q⟩ <;> (rw [h] at q; cases q)) rfl rfl
    exact R.ext x1 (R.sr.set hn x1 ⟨od, ps, upd_same .., r.ext x1, z, nd⟩)
/-- the dict in slot i is walked while m runs -/
def lockM (i : Nat) (m : M) : M := fun ρ S => match ρ[i]? with
  | some (some (.im (.ref n))) => (match S[n]? with
    | some (.dic kvs) => (match m ρ (S.set n (.fdic kvs)) with
      | .ok t S1 => (match S1[n]? with
        | some (.fdic kvs1) => .ok t (S1.set n (.dic kvs1))
        | _ => .stuck)
      | _ => .stuck)
    | _ => .stuck)
  | _ => .stuck
theorem rd_lockE {i : Nat} {m : M} {Q : VK} (q : tD C W b (lockM i m) σ H Q) : tLockE (tD C W b m) σ H Q := by
  obtain ⟨ρ, μ, S, R, p⟩ := q
  unfold lockM at p
  split at p
  · rename_i n e1
    split at p
    · rename_i kvs e2
      obtain ⟨a, ps, hn, hm, h, R1⟩ := lock_start R e1 e2
      refine ⟨a, _, h, trivial, fun od => ⟨ρ, μ, _, R1 od, ?_⟩⟩
      cases e3 : m ρ (S.set n (.fdic kvs)) with
      | ok t S1 =>
        rw [e3] at p
        dsimp only at p
        split at p
        · rename_i kvs1 e4
          intro v H1 μ1 x1 rt f s1
          have h1 := x1.frz a _ _ (upd_same ..)
          refine ⟨h1, p v _ μ1 (x1.unlock h hm) (rt.unlock h1) (fun eb o => ?_) (s1.unlock h1 (x1.at hn) e4)⟩
          obtain ⟨c, ec, hc⟩ := f eb o
          exact ⟨c, ec, nw_lock hc⟩
        · exact p.elim
      | exc x S1 => rw [e3] at p; exact p.elim
      | stuck => rw [e3] at p; exact p.elim
    · exact p.elim
  · exact p.elim
theorem de_lock {i : Nat} {e : Expr} {m : M} (h : DE X C W b e m) : DE X C W b e (lockM i m) := impE (pe_lock h) fun σ H Q q => rd_lockE q
def lockS (i : Nat) (m : MS) : MS := fun ρ S => match ρ[i]? with
  | some (some (.im (.ref n))) => (match S[n]? with
    | some (.dic kvs) => (match m ρ (S.set n (.fdic kvs)) with
      | .ok t S1 => (match S1[n]? with
        | some (.fdic kvs1) => .ok t (S1.set n (.dic kvs1))
        | _ => .stuck)
      | _ => .stuck)
    | _ => .stuck)
  | _ => .stuck
theorem Rel.unlock {a : Addr} {n : Nat} {od : Obj} {ps : List (Key × V)} {kvs : List (Key × D)} (h : H' a = some (.frz od (.dK ps))) (R : Rel C H' μ' σ ρ S') (hn : μ'[n]? = some a) (hS : S'[n]? = some (.fdic kvs)) : Rel C (upd H' a (.dK ps)) μ' σ ρ (S'.set n (.dic kvs)) :=
  ⟨R.sr.unlock h hn hS, R.len, fun i t e => let ⟨v, e1, r⟩ := R.at_ i t e; ⟨v, e1, r.unlock h⟩, R.apart⟩
theorem rd_lockS {i : Nat} {m : MS} {D : Ends} (q : tS C W (lockS i m) D σ H) : tLock (tS C W m) D σ H := by
  obtain ⟨ρ, μ, S, R, p⟩ := q
  unfold lockS at p
  split at p
  · rename_i n e1
    split at p
    · rename_i kvs e2
      obtain ⟨a, ps, hn, hm, h, R1⟩ := lock_start R e1 e2
      refine ⟨a, _, h, trivial, fun od => ⟨ρ, μ, _, R1 od, ?_⟩⟩
      have none_of : ∀ c, Nw (upd H a (.frz od (.dK ps))) c → Nw H c := fun c hc => nw_lock hc
      have sub_of : ∀ {P'}, Sub (upd H a (.frz od (.dK ps))) (Own σ ρ) P' → Sub H (Own σ ρ) P' := fun s c hc => (s c hc).imp id (none_of c)
      cases e3 : m ρ (S.set n (.fdic kvs)) with
      | ok t S1 =>
        rw [e3] at p
        dsimp only at p
        split at p
        · rename_i kvs1 e4
          obtain ⟨f, ρ1⟩ := t
          cases f with
          | nx =>
            intro σ1 H1 μ1 x1 R2 s2
            have h1 := x1.frz a _ _ (upd_same ..)
            exact ⟨h1, p σ1 _ μ1 (x1.unlock h hm) (R2.unlock h1 (x1.at hn) e4) (sub_of s2)⟩
          | bk =>
            intro σ1 H1 μ1 x1 R2 s2
            have h1 := x1.frz a _ _ (upd_same ..)
            exact ⟨h1, p σ1 _ μ1 (x1.unlock h hm) (R2.unlock h1 (x1.at hn) e4) (sub_of s2)⟩
          | ct =>
            intro σ1 H1 μ1 x1 R2 s2
            have h1 := x1.frz a _ _ (upd_same ..)
            exact ⟨h1, p σ1 _ μ1 (x1.unlock h hm) (R2.unlock h1 (x1.at hn) e4) (sub_of s2)⟩
          | rt t =>
            intro v H1 μ1 x1 rt f s2
            have h1 := x1.frz a _ _ (upd_same ..)
            refine ⟨h1, p v _ μ1 (x1.unlock h hm) (rt.unlock h1) (fun o => ?_) (s2.unlock h1 (x1.at hn) e4)⟩
            obtain ⟨c, ec, hc⟩ := f o
            exact ⟨c, ec, hc.imp (none_of c) id⟩
        · exact p.elim
      | exc x S1 => rw [e3] at p; exact p.elim
      | stuck => rw [e3] at p; exact p.elim
    · exact p.elim
  · exact p.elim
theorem ds_lock {i : Nat} {e : Stmt} {m : MS} (h : DS X C W e m) : DS X C W e (lockS i m) := impS (ps_lock h) fun D σ H q => rd_lockS q
/-! ### the walk of a dict that is held -/
def keysD (kvs : List (Key × D)) : List D := kvs.map fun kv => keyV kv.1
theorem src_keys {d : Addr} {od : Obj} {ps : List (Key × V)} {kvs : List (Key × D)} (hp : ps.map (·.1) = kvs.map (·.1)) : Src C o (Itk d od ps) (constG (keysD kvs)) (fun H _ _ _ => H d = some (.frz od (.dK ps))) where
  step := fun H μ σ ρ H' μ' σ' ρ' S S' h R x R' s => x.frz _ _ _ h
  item := fun H μ σ ρ S ds' i e h R e1 e2 => by
    cases e1
    unfold keysD at e2
    rw [List.getElem?_map] at e2
    cases e3 : kvs[i]? with
    | none => rw [e3] at e2; cases e2
    | some kv =>
      rw [e3] at e2
      cases e2
      have hk : ∃ v, ps[i]? = some (kv.1, v) := by
        have := congrArg (fun l => l[i]?) hp
        simp only [List.getElem?_map, e3] at this
        cases e4 : ps[i]? with
        | none => rw [e4] at this; cases this
        | some p =>
          rw [e4] at this
          obtain ⟨k, v⟩ := p
          cases this
          exact ⟨v, rfl⟩
      obtain ⟨v, hk⟩ := hk
      refine ⟨⟨h, (List.getElem?_eq_some_iff.mp hk).1⟩, fun x H' ⟨eH, k, v', ek, ex⟩ => ?_⟩
      subst eH
      rw [hk] at ek; cases ek
      rw [ex]
      exact ⟨Ext.refl, R.sr, keyV_ok _⟩
  done := fun H μ σ ρ S ds' i h R e1 e2 => by
    cases e1
    have h1 := List.getElem?_eq_none_iff.mp e2
    unfold keysD at h1
    have h2 := congrArg List.length hp
    simp only [List.length_map] at h1 h2
    exact ⟨h, by omega⟩
def dictS (m : M) : SM := fun ρ S => match m ρ S with
  | .ok (.im (.ref n)) S1 => (match S1[n]? with
    | some (.fdic kvs) => .ok (constG (keysD kvs), kvs.length) S1
    | _ => .stuck)
  | .ok _ _ => .stuck
  | .exc e S1 => .exc e S1
  | .stuck => .stuck
theorem KD.keys_eq {ps : List (Key × V)} {kvs : List (Key × D)} (h : KD C H μ ps kvs) : ps.map (·.1) = kvs.map (·.1) := by
  induction h with
  | nil => rfl
  | @cons p q _ _ r t ih => rw [List.map_cons, List.map_cons, ih, r.1]
theorem di_dict {tg e : Expr} {m : M} (he : DE X C W b1 e m) : DI X C W o tg e (dictS m) := impI (pi_keys he) fun σ H Q q => by
  obtain ⟨ρ, μ, S, R0, p⟩ := q
  refine ⟨ρ, μ, S, R0, ?_⟩
  unfold dictS at p
  cases e : m ρ S with
  | ok t S1 =>
    rw [e] at p
    intro v H1 μ1 e1 rt f s1
    split at p
    · rename_i n S2 e2
      cases e2
      split at p
      · rename_i kvs e3
        cases rt with
        | @ref _ a hn =>
          obtain ⟨od, ps, h, r, z, nd⟩ := s1.ok _ _ _ hn e3
          exact ⟨a, od, rfl, .inl ⟨ps, h, p _ _ H1 μ1 e1 s1 (src_keys (KD.keys_eq r)) h⟩⟩
      · exact p.elim
    · exact p.elim
    · rename_i e2; cases e2
    · rename_i e2; cases e2
  | exc x S1 => rw [e] at p; exact p
  | stuck => rw [e] at p; exact p
end
end DL

/-! The data layer: chains of comparisons, raise, isinstance, {}, zip, an error told by a lambda. -/
namespace DL
open PySem PySem.Spec L2
section
variable {C : Cn} {W : XK} {X : Cx} {H H' : Hp} {μ μ' : List Addr} {σ σ' : St} {ρ ρ' : Ev} {S S' : Sto} {o b b1 b2 b3 : Bool} {Q : VK}
/-! ### a < b < c -/
def chainM (m n k : M) (f g : O2) : M := bind m fun t => bind n fun u => bind (fun _ S => f t u S) fun z => match z with
  | .im (.bl true) => bind k fun w _ S => g u w S
  | .im (.bl false) => fun _ S => .ok (.im (.bl false)) S
  | _ => fun _ _ => .stuck
theorem bind_lift {g : Sto → Res T} {Z : T → M} : bind (fun _ S => g S) Z ρ S = (match g S with | .ok z S' => Z z ρ S' | .exc e S' => .exc e S' | .stuck => .stuck) := by unfold bind; dsimp only; cases g S <;> rfl
theorem rd_chain {m n k : M} {f g : O2} {r r' : R2} (hf : Op2 C W true f r) (hg : Op2 C W b g r') (q : tD C W b (chainM m n k f g) σ H Q) : tChain r r' (tD C W b1 m) (tD C W b2 n) (tD C W b3 k) σ H Q := by
  obtain ⟨ρ, μ, S, R, p⟩ := q
  refine read1 R p fun t S1 v H1 μ1 e1 rt _ R1 p1 _ => ?_
  refine read1 R1 p1 fun u S2 w H2 μ2 e2 ru _ R2 p2 _ => ?_
  refine hf H2 μ2 S2 v w t u _ R2.sr (rt.ext0 e2) ru ?_
  have p3 := p2
  rw [bind_lift] at p3
  cases e3 : f t u S2 with
  | exc x S3 => rw [e3] at p3; exact p3
  | stuck => rw [e3] at p3; exact p3
  | ok z S3 =>
    rw [e3] at p3
    intro y H3 μ3 x3 ry _ s3
    cases z with
    | im d =>
      cases d with
      | bl c =>
        refine ⟨c, rt_bl ry, ?_⟩
        cases c with
        | false => exact PostE.ext x3 p3 _ H3 μ3 Ext.refl (RD.bl false) (fun _ o => Bool.noConfusion o) s3
        | true =>
          rw [if_pos rfl]
          exact read1 (R2.ext x3 s3) (PostE.ext x3 p3) fun c S4 y2 H4 μ4 e4 rc _ R4 p4 _ => hg H4 μ4 S4 w y2 u c Q R4.sr ((ru.ext0 x3).ext0 e4) rc p4
      | _ => exact p3.elim
    | _ => exact p3.elim
theorem de_chain {op op' : CmpOp} {a c d : Expr} {pos : Pos} {m n k : M} {f g : O2} {r r' : R2} (ho : OpR X (compareOp op) r) (ho' : OpR X (compareOp op') r') (hf : Op2 C W true f r) (hg : Op2 C W b g r') (ha : DE X C W b1 a m) (hb : DE X C W b2 c n) (hc : DE X C W b3 d k)
    (hm : lastMarks [op, op'] [c, d] = false) : DE X C W b (.Compare a [op, op'] [c, d] pos) (chainM m n k f g) := impE (pe_chain ho ho' ha hb hc hm) fun σ H Q q => rd_chain hf hg q
/-- a test as an expression -/
theorem tDT_tD {m : M} {Q : Bool → Hp → Prop} (q : tDT C W m σ H Q) : tD C W b m σ H fun x H' => ∃ k, x = .bl k ∧ Q k H' := by
  obtain ⟨ρ, μ, S, R, p⟩ := q
  refine ⟨ρ, μ, S, R, ?_⟩
  cases e : m ρ S with
  | ok t S1 =>
    rw [e] at p
    cases t with
    | im d => cases d with
      | bl k => exact fun v H1 μ1 e1 rt f s => ⟨k, rt_bl rt, p H1 μ1 e1 s⟩
      | _ => exact p.elim
    | _ => exact p.elim
  | exc x S1 => rw [e] at p; exact p
  | stuck => rw [e] at p; exact p
theorem dt_chain {op op' : CmpOp} {a c d : Expr} {pos : Pos} {m n k : M} {f g : O2} {r r' : R2} (ho : OpR X (compareOp op) r) (ho' : OpR X (compareOp op') r') (hf : Op2 C W true f r) (hg : Op2 C W true g r') (ha : DE X C W b1 a m) (hb : DE X C W b2 c n) (hc : DE X C W b3 d k)
    (hm : lastMarks [op, op'] [c, d] = false) : DT X C W (.Compare a [op, op'] [c, d] pos) (chainM m n k f g) := impT (pt_chain ho ho' ha hb hc hm) fun σ H Q q => rd_chain hf hg (tDT_tD (b := true) q)
/-! ### raise -/
def raiseM (c : Str) : MS := fun _ S => .exc ⟨c, []⟩ S
theorem ds_raise {A : Addr} {bmB : List Value} {B newId initId : String} {c m : Str} {j : Nat} {p p2 pos rpos : Pos} (hc : X.calm = true) (tk : Takes X fun c d _ H => W c d H) (F : ExcBaseFacts B newId initId bmB) (q : PySem.W.excIn X.K A bmB newId = true) (gC : X.mg c = some (.ref A)) (gC' : C.mg c = some (.ref A))
    (kC : PySem.W.keepIn X.K (.ref A) = true) (r : Raises X (.ref A)) (hg : Gl X c) (hdb : (c == ("__debug__" : Str)) = false) : DS X C W (.Raise (some (.Call (.Name c p) [.Constant (.str m) j p2] [] pos)) none rpos) (raiseM c) :=
  impS (ps_raise hc tk (pmk_own F q gC kC r hg hdb)) fun D σ H q => by
    obtain ⟨ρ, μ, S, R, p⟩ := q
    exact p (.ref A) none H μ Ext.refl R.sr ⟨A, gC', rfl, fun h => absurd rfl h⟩
/-! ### {} -/
theorem de_dict0 {pos : Pos} : DE X C W b (.Dict [] [] pos) (fun _ S => .ok (.vd []) S) := impE pe_dnewK fun σ H Q q => by
  obtain ⟨ρ, μ, S, R, p⟩ := q
  exact fun a ha => end_vd R.sr ha .nil (Nat.zero_le _) List.nodup_nil p
/-! ### isinstance -/
def tyN (S : Sto) : T → Option String
  | .im .non => some "NoneType"
  | .im (.bl _) => some "bool"
  | .im (.int _) => some "int"
  | .im (.str _) => some "str"
  | .im (.tup _) => some "tuple"
  | .im (.kl _) => some "list"
  | .im (.ref n) => (match S[n]? with
    | some (.lst _) => some "list"
    | some (.dic _) => some "dict"
    | some (.fdic _) => some "dict"
    | _ => none)
  | .vl _ => some "list"
  | .vd _ => some "dict"
  | _ => none
theorem tyN_ok {v : V} {t : T} {n : String} (s : SR C H μ S) (r : RT C H μ v t) (e : tyN S t = some n) : TyX C.K H v (.type n) := by
  unfold tyN at e
  split at e
  · cases e; cases r; exact .base .non
  · cases e; cases r; exact .base (.bl _)
  · cases e; cases r; exact .base (.int _)
  · cases e; cases r; exact .base (.str _)
  · cases e
    cases r with
    | @tup a vs ds h _ _ =>
      rcases h with (h | ⟨w, h⟩) | ⟨w, its, n, h1, h2, _⟩
      · exact .base (.tup h)
      · exact .fTuple h
      · exact .kTuple h1 h2
  · cases e
    cases r with
    | @kl a vs ds h _ _ =>
      rcases h with ⟨w, h⟩ | ⟨w, its, n, h1, h2, _⟩
      · exact .base (.frz h)
      · exact .kList h1 h2
  · split at e
    · cases e
      cases r with
      | @ref _ a hn =>
        rename_i e2
        obtain ⟨vs, h, _⟩ := s.ok _ _ _ hn e2
        exact .base (.lst h)
    · cases e
      cases r with
      | @ref _ a hn =>
        rename_i e2
        obtain ⟨vs, h, _⟩ := s.ok _ _ _ hn e2
        exact .base (.dK h)
    · cases e
      cases r with
      | @ref _ a hn =>
        rename_i e2
        obtain ⟨w, vs, h, _⟩ := s.ok _ _ _ hn e2
        exact .fDict h
    · cases e
  · cases e
    obtain ⟨a, vs, rfl, h, _⟩ := r
    exact .base (.lst h)
  · cases e
    obtain ⟨a, vs, rfl, h, _⟩ := r
    exact .base (.dK h)
  · cases e
def tyLe (a b : String) : Bool := a == b || (a == "bool" && b == "int")
theorem kit_tyLe : ∀ a ∈ ["NoneType", "bool", "int", "str", "tuple", "list", "dict"], ∀ b ∈ ["bool", "int", "str", "tuple", "list", "dict"], kitB a b = some (tyLe a b) := by decide +kernel
theorem tyN_mem {t : T} {n : String} (e : tyN S t = some n) : n ∈ ["NoneType", "bool", "int", "str", "tuple", "list", "dict"] := by
  unfold tyN at e
  split at e
  any_goals (cases e; simp)
  split at e
  all_goals (cases e; try simp)
/-- isinstance(e, T) -/
def isiM (ty : String) (m : M) : M := un m fun t S => match tyN S t with
  | some n => .ok (.im (.bl (tyLe n ty))) S
  | none => .stuck
theorem de_isi {e : Expr} {x : Str} {ty : String} {p p2 pos : Pos} {m : M} (hK : X.K = C.K) (hty : ty ∈ ["bool", "int", "str", "tuple", "list", "dict"]) (hg : Gl X "isinstance") (hm : X.mg "isinstance" = none) (hgx : Gl X x) (hmx : X.mg x = none) (hvx : bootBuiltins x = some (.type ty)) (hnx : x ≠ "__name__") (hdx : (x == ("__debug__" : Str)) = false)
    (he : DE X C W b1 e m) (hs : starEach [e, .Name x p2] X.env = (false, eval e X.env) :: starEach [.Name x p2] X.env) (hs2 : starEach [.Name x p2] X.env = (false, eval (.Name x p2) X.env) :: starEach [] X.env) (hpl : (backTo pos (starEach [.Name x p2] X.env)).any (·.1) = false) :
    DE X C W b (.Call (.Name "isinstance" p) [e, .Name x p2] [] pos) (isiM ty m) :=
  impE (pe_callB call_isi hg hm (by rfl) (pa_cons he (pa_cons (pe_bltn (v := .ty ty) hgx hmx hvx rfl hnx hdx) pa_nil hs2) hs) (by decide) (by decide) hs hpl) fun σ H Q q => by
    obtain ⟨ρ, μ, S, R, p⟩ := q
    unfold isiM un at p
    refine read1 R p fun t S1 v H1 μ1 e1 rt _ R1 p1 _ => ?_
    dsimp only at p1
    split at p1
    · rename_i n en
      refine ⟨v, .ty ty, .type n, .type ty, tyLe n ty, rfl, .ty ty, by rw [hK]; exact tyN_ok R1.sr rt en, kit_ty (kit_tyLe n (tyN_mem en) ty hty), p1 _ H1 μ1 Ext.refl (.bl _) (fun _ o => Bool.noConfusion o) R1.sr⟩
    · exact p1.elim
end
end DL

/-! The data layer: an error told by a lambda; zip. -/
namespace DL
open PySem PySem.Spec L2
/-! ### told by a lambda -/
/-- the clause that takes the class -/
def pick (K : PySem.W.Frag) (cls : Value) : List (Value × Str) → Option Str
  | [] => none
  | (c, r) :: l => match PySem.W.exmOne K cls c with
    | some true => some r
    | some false => pick K cls l
    | none => none
inductive HdList (X : Cx) : List ExceptHandler → List (Value × Str) → Prop
  | nil : HdList X [] []
  | cons {x : Str} {c : Value} {r : Str} {j} {np pos' p5 p6 : Pos} {hds : List ExceptHandler} {l : List (Value × Str)} (hc : Names X x c) (t : HdList X hds l) :
      HdList X (.ExceptHandler (some (.Name x np)) none [.Return (some (.Constant (.str r) j p5)) p6] pos' :: hds) ((c, r) :: l)
abbrev tsOf (l : List (Value × Str)) : List (Value × (Addr → Value → Option Addr → TS)) := l.map fun p => (p.1, fun _ _ _ => tRet (tC (.str p.2)))
theorem hds_ok {X : Cx} {hds : List ExceptHandler} {l : List (Value × Str)} (h : HdList X hds l) : HdsOk X hds (tsOf l) := by
  induction h with
  | nil => exact .nil
  | cons hc t ih => exact .cons hc (fun a oe cls d pn _ _ => pss_one (ps_ret pe_str)) ih
theorem wMany_pick {K : PySem.W.Frag} {Wout : WX} {D : Ends} {cls : Value} {d : Option Addr} {σ : St} {H : Hp} {r : Str} : ∀ {l : List (Value × Str)}, pick K cls l = some r → D.rt (.str r) H → wMany K Wout D (tsOf l) cls d σ H
  | [], h, _ => by cases h
  | (c, r') :: l, h, q => by
    unfold pick at h
    split at h
    · rename_i e
      cases h
      exact ⟨true, e, fun _ a _ => q, fun z => Bool.noConfusion z⟩
    · rename_i e
      exact ⟨false, e, fun z => Bool.noConfusion z, fun _ => wMany_pick h q⟩
    · cases h
/-- try: a() / except ..: return r / ..; return ret -/
def TTm (K : PySem.W.Frag) (l : List (Value × Str)) (ret : Str) : (XK → Hp → VK → Prop) → Hp → VK → Prop := fun tl H Q =>
  tl (fun cls _ H' => ∃ r, pick K cls l = some r ∧ Q (.str r) H') H fun _ H' => Q (.str ret) H'
theorem many_gives {X : Cx} {Ng : List Str} {x a q ret : Str} {sg : Scope} {g : Addr} {cdg : Value} {l : List (Value × Str)} {h₀ : ExceptHandler} {hds : List ExceptHandler} {j} {p1 p2 p3 p5 p6 p8 : Pos}
    (hh : ∀ (s : Shared) (H : Hp), HdList (cxOf C8.CX0 X.prog X.w X.K X.mg X.base Ng x sg g cdg X.A X.stack s H C8.E0).nox (h₀ :: hds) l) (h0 : ∀ f : Addr, (L2.start Ng [V.ref f])[0]? = some (some (V.ref f)))
    (hsw : ∀ (s : Shared) (H : Hp) (pn : List (Addr × Obj)) (xe : Value → Shared → Prop), swapsWith (.Call (.Name a p1) [] [] p2) none p3.line ((cxOf C8.CX0 X.prog X.w X.K X.mg X.base Ng x sg g cdg X.A X.stack s H C8.E0).tr pn xe).env = pure false) :
    LamX.GivesTo X Ng x sg g cdg [.Try [.Expr (.Call (.Name a p1) [] [] p2) p3] (h₀ :: hds) [] [] p8, .Return (some (.Constant (.str ret) j p5)) p6] a q (TTm X.K l ret) := by
  intro f c' s H Q tl act hc h
  refine ⟨_, pss_cons (ps_try_many (X := (cxOf C8.CX0 X.prog X.w X.K X.mg X.base Ng x sg g cdg X.A X.stack s H C8.E0).nox) (l := tsOf l)
      (tb := fun W D σ H => ∃ Ech : XK, (∀ cls d σ' H', Ech cls d H' → W cls d σ' H') ∧ σ[0]? = some (some (.ref f)) ∧ H c' = some (LamX.CodeO c' q) ∧ tl Ech H fun _ H1 => D.nx σ H1)
      rfl rfl LamX.takes0 (fun W pn xe tk _ => ?_) (hds_ok (hh s H))) (pss_one (ps_ret pe_str)), ?_⟩
  · refine ⟨fun pins s' σ H' D I h' => ?_⟩
    obtain ⟨Ech, hW, h1, h2, h3⟩ := h'
    have hp := act W pn xe Ech p1 p2 tk hW
    have hq := pss_one (ps_expr (pos := p3) hp (hsw s H pn xe))
    exact hq.run pins s' σ H' D I ⟨h1, h2, h3⟩
  · exact ⟨fun cls _ H' => ∃ r, pick X.K cls l = some r ∧ Q (.str r) H', fun cls d σ' H' ⟨r, e1, e2⟩ => wMany_pick e1 e2, h0 f, hc, h⟩
section
variable {C : Cn} {W : XK} {X : Cx} {H H' : Hp} {μ μ' : List Addr} {σ σ' : St} {ρ ρ' : Ev} {S S' : Sto} {o b b1 b2 b3 : Bool} {Q : VK}
theorem ext_N (e : LamX.ExtN H H') (t : LamX.Tabs C.T H') : Ext C no H μ H' μ := by
  have k : ∀ b w, H b = some w → isT w = false → H' b = some w := fun b w h q => e b w h fun ps z => by rw [z] at q; cases q
  refine ⟨⟨[], by simp, by simp⟩, fun b o h q _ _ => k b o h q, fun b vs h => ?_, fun b w u h => k b _ h rfl, fun b o h q => ⟨o, k b o h q, q⟩, fun _ => t⟩
  rcases h with (h | ⟨u, h⟩) | h
  · exact .inl (.inl (k b _ h rfl))
  · exact .inl (.inr ⟨u, k b _ h rfl⟩)
  · exact .inr h
theorem sr_N (s : SR C H μ S) (e : LamX.ExtN H H') (t : LamX.Tabs C.T H') : SR C H' μ S := s.ext (ext_N e t) fun a ha => by
  obtain ⟨n, o, _, _, m⟩ := s.mem ha
  obtain ⟨u, h, q⟩ := m.there
  rw [h]
  exact e a u h fun ps z => by rw [z] at q; cases q
/-- sel: what the clause returns that takes the class -/
def lamErrM (sel : Str → Option Str) (ret : Str) (m : M) : M := fun ρ S => match m ρ S with
  | .ok _ S' => .ok (.im (.str ret)) S'
  | .exc e S' => (match sel e.c with
    | some r => .ok (.im (.str r)) S'
    | none => .stuck)
  | .stuck => .stuck
theorem rd_lamErr {sel : Str → Option Str} {ret : Str} {m : M} {l : List (Value × Str)} (hs : ∀ c A r, C.mg c = some (.ref A) → sel c = some r → pick C.K (.ref A) l = some r) (q : tD C W b (lamErrM sel ret m) σ H Q) : LamX.tLam C.T (TTm C.K l ret) (fun E => tD C E true m) σ H Q := by
  obtain ⟨ρ, μ, S, R, p⟩ := q
  refine ⟨R.sr.tabs, fun H1 e t => ⟨ρ, μ, S, R.ext (ext_N e t) (sr_N R.sr e t), ?_⟩⟩
  unfold lamErrM at p
  cases e1 : m ρ S with
  | ok u S1 =>
    rw [e1] at p
    exact fun v H2 μ2 x2 rt _ s2 => p (.str ret) H2 μ2 ((ext_N e t).then0 x2) (RD.str ret) (fun _ o => Bool.noConfusion o) s2
  | exc x S1 =>
    rw [e1] at p
    dsimp only at p
    cases e2 : sel x.c with
    | none => rw [e2] at p; exact p.elim
    | some r =>
      rw [e2] at p
      intro cv dx H2 μ2 x2 s2 xr
      obtain ⟨A, h1, h2, _⟩ := xr
      subst h2
      exact ⟨r, hs _ A r h1 e2, p (.str r) H2 μ2 ((ext_N e t).then0 x2) (RD.str r) (fun _ o => Bool.noConfusion o) s2⟩
  | stuck => rw [e1] at p; exact p
/-- what a lambda's context takes -/
theorem takes_lam {A : Around} {outer : List Env} {s : Shared} {E : XK} {scope : Scope} {f c' : Addr} : Takes (LamX.lamCx X A outer s H E scope f c') fun c d _ H => E c d H := takes_of rfl rfl rfl rfl
theorem de_lamErr {sel : Str → Option Str} {ret : Str} {m : M} {l : List (Value × Str)} {x a : Str} {g c P : Addr} {k : Nat} {pg : Arguments} {bg : List Stmt} {sg : Scope} {dV kV doc pm cdv ct oc : Value} {an od : Option Addr} {osl : Array (Option Value)} {Ng : List Str}
    {params : Arguments} {body : Expr} {scope : Scope} {p lpos pos : Pos} (hK : X.K = C.K) (hs : ∀ c A r, C.mg c = some (.ref A) → sel c = some r → pick C.K (.ref A) l = some r) (hg : Gl X x) (hm : X.mg x = some (.ref g)) (hk : PySem.W.keepIn X.K (.ref g) = true)
    (lk : X.K.lookup g = some ⟨oc, od, .func (PySem.W.fnOf x x pg bg sg dV kV doc pm an cdv ct), osl⟩) (hcg : PySem.W.codeIn X.K cdv x = true) (hb : L2.Binds X.K (PySem.W.fnOf x x pg bg sg dV kV doc pm an cdv ct) [a] []) (Sg : FnScope Ng [a] sg) (hNg : Ng[0]? = some a) (hva : Vis sg a)
    (hG : LamX.GivesTo X Ng x sg g cdv bg a (X.env.qual ++ "<lambda>") (TTm X.K l ret))
    (TB : LamX.TabB X.base X.mg c P) (hcode : X.env.code = .ref c) (hmT : (P, X.env.qual ++ "<lambda>") ∈ C.T) (hu : ∀ p ∈ C.T, p.1 = P → p.2 = X.env.qual ++ "<lambda>") (hr : Room (k + 2) X.A) (L : LamX.LamS X.env.scope scope) (hdef : defaultsOf params X.env = ([], []))
    (hbind : ∀ (q : Str) (cl : List (Str × Addr)) (pm cv ctv : Value), bindArgs (PySem.W.kla_fn "<lambda>" q params body scope cl pm cv ctv) ⟨[], []⟩ = pure [])
    (hbody : ∀ (A : Around) (outer : List Env) (s : Shared) (H : Hp) (E : XK) (f c' : Addr), Room k (A.deeper (LamX.lamEnv X scope s.heap.objs.size f c')) → DE (LamX.lamCx X A outer s H E scope f c') C E true body m)
    (hdb : (x == ("__debug__" : Str)) = false) (hd : (a == ("__debug__" : Str)) = false) (hcd : (a == ("__classdict__" : Str)) = false) :
    DE X C W b (.Call (.Name x p) [.Lambda params body scope lpos] [] pos) (lamErrM sel ret m) :=
  impE (LamX.pe_lamcall (T := C.T) (t := fun E => tD C E true m) hg hm hk lk hcg hb Sg hNg hva hG TB hcode hmT hu hr L hdef hbind hbody hdb hd hcd) fun σ H Q q => by rw [hK]; exact rd_lamErr hs q
/-! ### zip -/
def zipG (g1 g2 : Get) : Get := fun ρ S => match g1 ρ S with
  | some a => (match g2 ρ S with
    | some b => some (List.zipWith (fun x y => DL.D.tup [x, y]) a b)
    | none => none)
  | none => none
theorem zipG_some {g1 g2 : Get} {ds : List DL.D} (e : zipG g1 g2 ρ S = some ds) : ∃ a b, g1 ρ S = some a ∧ g2 ρ S = some b ∧ ds = List.zipWith (fun x y => DL.D.tup [x, y]) a b := by
  unfold zipG at e
  split at e
  · rename_i a ea
    split at e
    · rename_i b eb
      cases e
      exact ⟨a, b, ea, eb, rfl⟩
    · cases e
  · cases e
/-- one step of a zip: the new pair -/
theorem zip_step {x y : V} {dx dy : DL.D} {T : Addr} (R : Rel C H μ σ ρ S) (hT : H T = none) (rx : RD C H μ x dx) (ry : RD C H μ y dy) :
    Ext C no H μ (upd H T (.tup [x, y])) μ ∧ SR C (upd H T (.tup [x, y])) μ S ∧ RD C (upd H T (.tup [x, y])) μ (.ref T) (.tup [dx, dy]) := by
  have x1 : Ext C no H μ (upd H T (.tup [x, y])) μ := Ext.laid hT
  exact ⟨x1, R.sr.laid hT, .tup (.of upd_same) (.cons (rx.ext x1) (.cons (ry.ext x1) .nil)) (by show 2 ≤ 16777216; decide)⟩
theorem src_zipT {a c : Addr} {g1 g2 : Get} {I1 I2 : Hp → List Addr → St → Ev → Prop} (s1 : Src C o (Itt C.K a) g1 I1) (s2 : Src C o (Itt C.K c) g2 I2) : Src C o (RZ.ItzT C.K a c) (zipG g1 g2) (fun H μ σ ρ => I1 H μ σ ρ ∧ I2 H μ σ ρ) where
  step := fun H μ σ ρ H' μ' σ' ρ' S S' h R x R' s => ⟨s1.step _ _ _ _ _ _ _ _ _ _ h.1 R x R' s, s2.step _ _ _ _ _ _ _ _ _ _ h.2 R x R' s⟩
  item := fun H μ σ ρ S ds i d h R e1 e2 => by
    obtain ⟨p, q, e3, e4, rfl⟩ := zipG_some e1
    rw [List.getElem?_zipWith] at e2
    cases e5 : p[i]? with
    | none => rw [e5] at e2; cases e2
    | some dx =>
      cases e6 : q[i]? with
      | none => rw [e5, e6] at e2; cases e2
      | some dy =>
        rw [e5, e6] at e2
        cases e2
        obtain ⟨⟨xs, x, hx, hxi⟩, y1⟩ := s1.item _ _ _ _ _ _ _ _ h.1 R e3 e5
        obtain ⟨⟨ys, y, hy, hyi⟩, y2⟩ := s2.item _ _ _ _ _ _ _ _ h.2 R e4 e6
        refine ⟨⟨xs, ys, x, y, hx, hy, hxi, hyi⟩, fun v H' ⟨T, x', y', ev, hT, eH, k1, k2⟩ => ?_⟩
        subst ev; subst eH
        exact zip_step R hT (y1 x' H ⟨rfl, k1⟩).2.2 (y2 y' H ⟨rfl, k2⟩).2.2
  done := fun H μ σ ρ S ds i h R e1 e2 => by
    obtain ⟨p, q, e3, e4, rfl⟩ := zipG_some e1
    have any1 : ∃ xs : List V, SqT C.K H a xs ∧ (p[i]? = none → xs.length ≤ i) := by
      cases e5 : p[i]? with
      | none => obtain ⟨xs, h1, h2⟩ := s1.done _ _ _ _ _ _ _ h.1 R e3 e5; exact ⟨xs, h1, fun _ => h2⟩
      | some dx => obtain ⟨⟨xs, x, h1, _⟩, _⟩ := s1.item _ _ _ _ _ _ _ _ h.1 R e3 e5; exact ⟨xs, h1, fun z => by cases z⟩
    have any2 : ∃ xs : List V, SqT C.K H c xs ∧ (q[i]? = none → xs.length ≤ i) := by
      cases e5 : q[i]? with
      | none => obtain ⟨xs, h1, h2⟩ := s2.done _ _ _ _ _ _ _ h.2 R e4 e5; exact ⟨xs, h1, fun _ => h2⟩
      | some dx => obtain ⟨⟨xs, x, h1, _⟩, _⟩ := s2.item _ _ _ _ _ _ _ _ h.2 R e4 e5; exact ⟨xs, h1, fun z => by cases z⟩
    obtain ⟨xs, hx, lx⟩ := any1
    obtain ⟨ys, hy, ly⟩ := any2
    refine ⟨xs, ys, hx, hy, ?_⟩
    rw [List.getElem?_zipWith] at e2
    cases e5 : p[i]? with
    | none => exact .inl (lx e5)
    | some dx =>
      cases e6 : q[i]? with
      | none => exact .inr (ly e6)
      | some dy => rw [e5, e6] at e2; cases e2
theorem src_zipL {a c : Addr} {g1 g2 : Get} {I1 I2 : Hp → List Addr → St → Ev → Prop} (s1 : Src C o (Itl C.K a) g1 I1) (s2 : Src C o (Itl C.K c) g2 I2) : Src C o (Itz C.K a c) (zipG g1 g2) (fun H μ σ ρ => I1 H μ σ ρ ∧ I2 H μ σ ρ) where
  step := fun H μ σ ρ H' μ' σ' ρ' S S' h R x R' s => ⟨s1.step _ _ _ _ _ _ _ _ _ _ h.1 R x R' s, s2.step _ _ _ _ _ _ _ _ _ _ h.2 R x R' s⟩
  item := fun H μ σ ρ S ds i d h R e1 e2 => by
    obtain ⟨p, q, e3, e4, rfl⟩ := zipG_some e1
    rw [List.getElem?_zipWith] at e2
    cases e5 : p[i]? with
    | none => rw [e5] at e2; cases e2
    | some dx =>
      cases e6 : q[i]? with
      | none => rw [e5, e6] at e2; cases e2
      | some dy =>
        rw [e5, e6] at e2
        cases e2
        obtain ⟨⟨xs, x, hx, hxi⟩, y1⟩ := s1.item _ _ _ _ _ _ _ _ h.1 R e3 e5
        obtain ⟨⟨ys, y, hy, hyi⟩, y2⟩ := s2.item _ _ _ _ _ _ _ _ h.2 R e4 e6
        refine ⟨⟨xs, ys, x, y, hx, hy, hxi, hyi⟩, fun v H' ⟨T, x', y', ev, hT, eH, k1, k2⟩ => ?_⟩
        subst ev; subst eH
        exact zip_step R hT (y1 x' H ⟨rfl, k1⟩).2.2 (y2 y' H ⟨rfl, k2⟩).2.2
  done := fun H μ σ ρ S ds i h R e1 e2 => by
    obtain ⟨p, q, e3, e4, rfl⟩ := zipG_some e1
    have any1 : ∃ xs : List V, SqL C.K H a xs ∧ (p[i]? = none → xs.length ≤ i) := by
      cases e5 : p[i]? with
      | none => obtain ⟨xs, h1, h2⟩ := s1.done _ _ _ _ _ _ _ h.1 R e3 e5; exact ⟨xs, h1, fun _ => h2⟩
      | some dx => obtain ⟨⟨xs, x, h1, _⟩, _⟩ := s1.item _ _ _ _ _ _ _ _ h.1 R e3 e5; exact ⟨xs, h1, fun z => by cases z⟩
    have any2 : ∃ xs : List V, SqL C.K H c xs ∧ (q[i]? = none → xs.length ≤ i) := by
      cases e5 : q[i]? with
      | none => obtain ⟨xs, h1, h2⟩ := s2.done _ _ _ _ _ _ _ h.2 R e4 e5; exact ⟨xs, h1, fun _ => h2⟩
      | some dx => obtain ⟨⟨xs, x, h1, _⟩, _⟩ := s2.item _ _ _ _ _ _ _ _ h.2 R e4 e5; exact ⟨xs, h1, fun z => by cases z⟩
    obtain ⟨xs, hx, lx⟩ := any1
    obtain ⟨ys, hy, ly⟩ := any2
    refine ⟨xs, ys, hx, hy, ?_⟩
    rw [List.getElem?_zipWith] at e2
    cases e5 : p[i]? with
    | none => exact .inl (lx e5)
    | some dx =>
      cases e6 : q[i]? with
      | none => exact .inr (ly e6)
      | some dy => rw [e5, e6] at e2; cases e2
/-- two tuples -/
def zipTS (ms : MA) : SM := fun ρ S => match ms ρ S with
  | .ok [.im (.tup a), .im (.tup c)] S1 => .ok (zipG (constG a) (constG c), min a.length c.length) S1
  | .ok _ _ => .stuck
  | .exc e S1 => .exc e S1
  | .stuck => .stuck
theorem di_zipT {e e2 : Expr} {ms : MA} {p pos tpos : Pos} {elts : List Expr} {kk : Nat} (hK : X.K = C.K) (hg : Gl X "zip") (hm : X.mg "zip" = none) (ha : DBs X C W [e, e2] ms) (hs : starEach [e, e2] X.env = (false, eval e X.env) :: starEach [e2] X.env) (hpl : (backTo pos (starEach [e2] X.env)).any (·.1) = false) :
    DI X C W o (.Tuple elts kk tpos) (.Call (.Name "zip" p) [e, e2] [] pos) (zipTS ms) := impI (RZ.pi_zipA hg hm ha hs hpl) fun σ H Q q => by
  rw [hK]
  obtain ⟨ρ, μ, S, R0, p⟩ := q
  refine ⟨ρ, μ, S, R0, ?_⟩
  unfold zipTS at p
  cases e1 : ms ρ S with
  | ok ts S1 =>
    rw [e1] at p
    intro vs H1 μ1 x1 A s1
    split at p
    · rename_i a c S2 e2
      cases e2
      obtain ⟨v, w, rfl, r1, r2⟩ := two_args A
      cases r1 with
      | @tup va xs _ hx rx zx =>
        cases r2 with
        | @tup vb ys _ hy ry zy => exact ⟨va, vb, xs, ys, rfl, .inr ⟨hx, hy, p _ _ H1 μ1 x1 s1 (src_zipT src_tup src_tup) ⟨⟨xs, hx, rx⟩, ⟨ys, hy, ry⟩⟩⟩⟩
    · exact p.elim
    · rename_i e2; cases e2
    · rename_i e2; cases e2
  | exc x S1 => rw [e1] at p; exact p
  | stuck => rw [e1] at p; exact p
end
end DL

/-! The data layer: a def by its body; the rules as they are printed. -/
namespace DL
open PySem PySem.Spec L2
/-! ### a def -/
def startE (N : Nat) (ts : List T) : Ev := ts.map some ++ List.replicate (N - ts.length) none
def runF (N : Nat) (m : MS) : FS := fun ts S => match m (startE N ts) S with
  | .ok (.nx, _) S' => .ok (.im .non) S'
  | .ok (.rt t, _) S' => .ok t S'
  | .ok _ _ => .stuck
  | .exc e S' => .exc e S'
  | .stuck => .stuck
section
variable {C : Cn} {P : Program} {w : World} {K : PySem.W.Frag} {mg : Str → Option Value} {base : Heap} {H : Hp} {μ : List Addr} {S : Sto}
theorem start_rel {N : List Str} {vs : List V} {ts : List T} (s : SR C H μ S) (A : ArgsC C H μ vs ts) : Rel C H μ (L2.start N vs) (startE N.length ts) S ∧ ∀ a, Own (L2.start N vs) (startE N.length ts) a ↔ ArgsOwn vs ts a := by
  have hl := Paired.len A.rt
  have key : ∀ (i : Nat) (t : T), (startE N.length ts)[i]? = some (some t) ↔ ts[i]? = some t := fun i t => by
    unfold startE
    by_cases hi : i < ts.length
    · rw [List.getElem?_append_left (by simpa using hi), List.getElem?_map]
      simp [hi]
    · rw [List.getElem?_append_right (by simpa using hi), List.getElem?_replicate, List.getElem?_eq_none (by omega)]
      constructor
      · intro h; split at h <;> cases h
      · intro h; cases h
  have keyV : ∀ (i : Nat) (v : V), vs[i]? = some v ↔ (L2.start N vs)[i]? = some (some v) := fun i v => by
    unfold L2.start
    by_cases hi : i < vs.length
    · rw [List.getElem?_append_left (by simpa using hi), List.getElem?_map]
      simp [hi]
    · rw [List.getElem?_append_right (by simpa using hi), List.getElem?_replicate, List.getElem?_eq_none (by omega)]
      constructor
      · intro h; cases h
      · intro h; split at h <;> cases h
  refine ⟨⟨s, by unfold L2.start startE; simp [hl], fun i t h => ?_, fun i j t u a h1 h2 h3 h4 h5 h6 => A.apart i j t u a ((key i t).mp h1) h2 ((key j u).mp h3) h4 ((keyV i _).mpr h5) ((keyV j _).mpr h6)⟩, fun a => ⟨fun ⟨i, t, h1, h2, h3⟩ => ⟨i, t, (key i t).mp h1, h2, (keyV i _).mpr h3⟩, fun ⟨i, t, h1, h2, h3⟩ => ⟨i, t, (key i t).mpr h1, h2, (keyV i _).mp h3⟩⟩⟩
  have h1 := (key i t).mp h
  have hi : i < vs.length := by rw [hl]; exact (List.getElem?_eq_some_iff.mp h1).1
  exact ⟨vs[i], (keyV i _).mp (by simp [hi]), Paired.at_ A.rt i _ _ (by simp [hi]) h1⟩
theorem run_tS {E : XK} {N : List Str} {m : MS} {n : Nat} {vs : List V} {Q : VK} (h : spF C n (runF N.length m) vs H Q E) : tS C E m { nx := fun _ H' => Q .non H', rt := Q } (L2.start N vs) H := by
  obtain ⟨ts, μ, S, hn, s, A, p⟩ := h
  obtain ⟨R, ow⟩ := start_rel (N := N) s A
  refine ⟨_, μ, S, R, ?_⟩
  have sub : ∀ a, Own (L2.start N vs) (startE N.length ts) a → ArgsOwn vs ts a := fun a h => (ow a).mp h
  unfold runF at p
  cases e : m (startE N.length ts) S with
  | ok a S1 =>
    rw [e] at p
    obtain ⟨f, ρ1⟩ := a
    cases f with
    | nx => exact fun σ1 H1 μ1 x1 R1 s1 => p .non H1 μ1 (x1.mono sub) RD.non (fun o => Bool.noConfusion o) R1.sr
    | bk => exact p.elim
    | ct => exact p.elim
    | rt t => exact fun v H1 μ1 x1 rt f s1 => p v H1 μ1 (x1.mono sub) rt (fun o => by
        obtain ⟨c, ec, hc⟩ := f o
        exact ⟨c, ec, hc.imp id (sub c)⟩) s1
  | exc x S1 => rw [e] at p; exact fun cv dx H2 μ2 e2 s2 xr => p cv dx H2 μ2 (e2.mono sub) s2 xr
  | stuck => rw [e] at p; exact p.elim
/-- a def of the module, its promise -/
structure DFn (P : Program) (w : World) (K : PySem.W.Frag) (mg : Str → Option Value) (base : Heap) (C : Cn) (k : Nat) (x : Str) (n : Nat) (F : FS) : Prop where
  ok : ∃ f fd ps, FnOk P w K mg base (L2.CX P w) k f fd ps (spF C n F) ∧ mg x = some (.ref f) ∧ PySem.W.keepIn K (.ref f) = true ∧ Binds K fd ps []
/-- a method -/
structure DMt (P : Program) (w : World) (K : PySem.W.Frag) (mg : Str → Option Value) (base : Heap) (C : Cn) (k : Nat) (c m : Str) (n : Nat) (F : FS) : Prop where
  ok : ∃ A f fd ps, FnOk P w K mg base (L2.CX P w) k f fd ps (spF C (n + 1) F) ∧ C.mg c = some (.ref A) ∧ Cls K A ∧ Meth K A m f ∧ Binds K fd ps []
/-- a class that is made -/
structure DMk (P : Program) (w : World) (K : PySem.W.Frag) (mg : Str → Option Value) (base : Heap) (C : Cn) (k : Nat) (c : Str) (n : Nat) (F : FS) : Prop where
  ok : ∃ A f fd ps, FnOk P w K mg base (L2.CX P w) k f fd ps (spF C (n + 1) F) ∧ C.mg c = some (.ref A) ∧ mg c = some (.ref A) ∧ Cls C.K A ∧ Mk K A f ∧ Binds K fd ps []
/-- the def's body gives its promise -/
theorem fn_dl {x qual : Str} {params : Arguments} {body : List Stmt} {scope : Scope} {f : Addr} {fd : FuncData} {N ps : List Str} {k : Nat} {mb : MS} {n : Nat} (F : FunD K x qual params body scope [] [] f fd) (hS : C8.scC N ps scope = true) (hn : ps.length = n)
    (hbody : ∀ (cdv : Value) (A : Around) (outer : List Env) (s : Shared) (H : Hp) (E : XK), Room k (A.deeper (PyProof.Rows.envOfC qual scope s.heap.objs.size f cdv)) → DSs (cxOf (L2.CX P w) P w K mg base N qual scope f cdv A outer s H E) C E body mb) :
    FnOk P w K mg base (L2.CX P w) (k + 1) f fd ps (spF C n (runF N.length mb)) :=
  F.ok (C8.fnScope_by hS) (fun vs H Q E h => by rw [spF_len vs H Q E h, hn]) fun cdv A outer s H vs Q E hr h => ⟨_, hbody cdv A outer s H E hr, run_tS h⟩
end
/-! ### constants of the module -/
structure DCon (mg : Str → Option Value) (C : Cn) (x : Str) (d : D) : Prop where
  ok : ∃ u v, mg x = some u ∧ RelV v u ∧ ∀ H μ, RD C H μ v d
/-! ### what a body's context has -/
structure XOk (X : Cx) (C : Cn) (W : XK) (k : Nat) : Prop where
  K : X.K = C.K
  w : X.w = C.w
  mg : X.mg = C.mg
  calm : X.calm = true
  tk : Takes X fun c d _ H => W c d H
  rm : Room k X.A
  nd : X.N.Nodup
section
variable {C : Cn} {W : XK} {X : Cx} {k j n i : Nat} {b b1 b2 b3 : Bool} {e a c d : Expr} {es : List Expr} {m mo mi mk mx m2 : M} {ms : List M} {ma : MA} {x : Str} {pos p p2 p3 apos cpos : Pos} {F : FS}
def visB (sc : Scope) (x : Str) : Bool := match sc.names.lookup x with
  | some .local => true
  | some .cell => true
  | some .free => true
  | _ => false
theorem vis_by {sc : Scope} {x : Str} (h : visB sc x = true) : Vis sc x := by
  unfold visB at h
  split at h
  · exact .inl (by assumption)
  · exact .inr (.inl (by assumption))
  · exact .inr (.inr (by assumption))
  · cases h
def locB (sc : Scope) (x : Str) : Bool := match sc.names.lookup x with
  | some .local => true
  | some .cell => true
  | _ => false
theorem loc_by {sc : Scope} {x : Str} (h : locB sc x = true) : Loc sc x := by
  unfold locB at h
  split at h
  · exact .inl (by assumption)
  · exact .inr (by assumption)
  · cases h
theorem e_slot (i : Nat) (hN : X.N[i]? = some x := by rfl) (hv : visB X.env.scope x = true := by rfl) (hd : (x == ("__debug__" : Str)) = false := by rfl) (hcd : (x == ("__classdict__" : Str)) = false := by rfl) : DE X C W b (.Name x pos) (slot b i) := de_slot hN (vis_by hv) hd hcd
theorem e_glob {d : D} (G : DCon X.mg C x d) (hg : Gl X x := by rfl) (hd : (x == ("__debug__" : Str)) = false := by rfl) : DE X C W b (.Name x pos) (cst d) := by
  obtain ⟨u, v, h1, h2, h3⟩ := G.ok
  exact de_glob hg h1 h2 h3 hd
theorem a_cons (h : DE X C W false e m) (hr : DA X C W es (argsM ms)) (hs : starEach (e :: es) X.env = (false, eval e X.env) :: starEach es X.env := by rfl) : DA X C W (e :: es) (argsM (m :: ms)) := da_cons h hr hs
theorem b_cons (h : DE X C W true e m) (hr : DBs X C W es (argsM ms)) (hs : starEach (e :: es) X.env = (false, eval e X.env) :: starEach es X.env := by rfl) : DBs X C W (e :: es) (argsM (m :: ms)) := db_cons h hr hs
theorem e_call (o : XOk X C W k) (G : DFn X.prog X.w X.K X.mg X.base C j x n F) (ha : DA X C W (e :: es) ma) (hj : j ≤ k := by decide) (hg : Gl X x := by rfl) (hdb : (x == ("__debug__" : Str)) = false := by rfl) (he : starEach (e :: es) X.env = (false, eval e X.env) :: starEach es X.env := by rfl) (hpl : (backTo pos (starEach es X.env)).any (·.1) = false := by rfl) :
    DE X C W b (.Call (.Name x p) (e :: es) [] pos) (callM n F ma) := by
  obtain ⟨f, fd, ps, G, h1, h2, h3⟩ := G.ok
  exact de_call G (o.rm.mono hj) hg h1 h2 h3 o.tk ha hdb he hpl
theorem e_call0 (o : XOk X C W k) (G : DFn X.prog X.w X.K X.mg X.base C j x n F) (hj : j ≤ k := by decide) (hg : Gl X x := by rfl) (hdb : (x == ("__debug__" : Str)) = false := by rfl) : DE X C W b (.Call (.Name x p) [] [] pos) (callM n F (argsM [])) := by
  obtain ⟨f, fd, ps, G, h1, h2, h3⟩ := G.ok
  exact de_call0 G (o.rm.mono hj) hg h1 h2 h3 o.tk hdb
theorem e_make (o : XOk X C W k) (G : DMk X.prog X.w X.K X.mg X.base C j x n F) (ha : DA X C W (e :: es) ma) (hj : j + 1 ≤ k := by decide) (hg : Gl X x := by rfl) (hdb : (x == ("__debug__" : Str)) = false := by rfl) (he : starEach (e :: es) X.env = (false, eval e X.env) :: starEach es X.env := by rfl) (hpl : (backTo pos (starEach es X.env)).any (·.1) = false := by rfl) :
    DE X C W b (.Call (.Name x p) (e :: es) [] pos) (makeM x n F ma) := by
  obtain ⟨A, f, fd, ps, G, h1, h2, h3, h4, h5⟩ := G.ok
  exact de_make o.K h1 h3 h4 G (o.rm.mono hj) hg h2 h5 o.tk ha hdb he hpl
theorem e_make0 (o : XOk X C W k) (G : DMk X.prog X.w X.K X.mg X.base C j x n F) (hj : j + 1 ≤ k := by decide) (hg : Gl X x := by rfl) (hdb : (x == ("__debug__" : Str)) = false := by rfl) : DE X C W b (.Call (.Name x p) [] [] pos) (makeM x n F (argsM [])) := by
  obtain ⟨A, f, fd, ps, G, h1, h2, h3, h4, h5⟩ := G.ok
  exact de_make0 o.K h1 h3 h4 G (o.rm.mono hj) hg h2 h5 o.tk hdb
theorem e_meth {mt cn : Str} (o : XOk X C W k) (G : DMt X.prog X.w X.K X.mg X.base C j cn mt n F) (ho : DE X C W true a mo) (ha : DA X C W (e :: es) ma) (hj : j ≤ k := by decide) (hst : starEach (e :: es) X.env = (false, eval e X.env) :: starEach es X.env := by rfl) (hpl : (backTo pos (starEach es X.env)).any (·.1) = false := by rfl)
    (ht : eval (.Call (.Attribute a mt apos) (e :: es) [] pos) X.env = (do
      let ov ← eval a X.env
      standAt apos.atName
      let (f, first) ← holding [ov] (getMethod ov mt (plainOf a X.env))
      callWith pos f first (backTo pos (starEach (e :: es) X.env)) (backToKw pos (keywordEach [] X.env))) := by rfl) : DE X C W b (.Call (.Attribute a mt apos) (e :: es) [] pos) (methM cn mt n F mo ma) := by
  obtain ⟨A, f, fd, ps, G, h1, h2, h3, h4⟩ := G.ok
  exact de_meth h1 ho h2 h3 G (o.rm.mono hj) h4 o.tk ha hst hpl ht
theorem e_meth0 {mt cn : Str} (o : XOk X C W k) (G : DMt X.prog X.w X.K X.mg X.base C j cn mt n F) (ho : DE X C W true a mo) (hj : j ≤ k := by decide)
    (ht : eval (.Call (.Attribute a mt apos) [] [] pos) X.env = (do
      let ov ← eval a X.env
      standAt apos.atName
      let (f, first) ← holding [ov] (getMethod ov mt (plainOf a X.env))
      callWith pos f first (backTo pos (starEach [] X.env)) (backToKw pos (keywordEach [] X.env))) := by rfl) : DE X C W b (.Call (.Attribute a mt apos) [] [] pos) (methM cn mt n F mo (argsM [])) := by
  obtain ⟨A, f, fd, ps, G, h1, h2, h3, h4⟩ := G.ok
  exact de_meth0 h1 ho h2 h3 G (o.rm.mono hj) h4 o.tk ht
end
end DL

/-! The data layer: the rules as they are printed, the rest. -/
namespace DL
open PySem PySem.Spec L2
section
variable {C : Cn} {W : XK} {X : Cx} {k j n i l : Nat} {b b1 b2 b3 : Bool} {e a c d : Expr} {es rest : List Expr} {m mo mi mk mx m2 me mt : M} {ms : List M} {ma : MA} {x y : Str} {pos p p2 p3 pos' apos cpos spos : Pos} {F : FS} {f g : O2} {r r' : R2} {op op' : CmpOp}
theorem XOk.u66 (o : XOk X C W k) : X.A.units + 66 < cLine := by have := o.rm.un; omega
theorem XOk.u1 (o : XOk X C W k) : X.A.units + 1 < cLine := by have := o.rm.un; omega
theorem XOk.blk (o : XOk X C W k) {s : Shared} {H : Hp} {scope : Scope} {env : Env} {fp : List Addr} : XOk (X.blk s H scope env fp) C noX k := ⟨o.K, o.w, o.mg, o.calm, LamX.takes0, o.rm, o.nd⟩
theorem XOk.lam (o : XOk X C W k) {A : Around} {outer : List Env} {s : Shared} {H : Hp} {E : XK} {scope : Scope} {f c' : Addr} (hr : Room j (A.deeper (LamX.lamEnv X scope s.heap.objs.size f c'))) : XOk (LamX.lamCx X A outer s H E scope f c') C E j := ⟨o.K, o.w, o.mg, rfl, takes_lam, hr, o.nd⟩
/-! operators -/
theorem o_add (o : XOk X C W k) : OpR X (binaryOp .Add) (rAddD C.K) := o.K ▸ addO_op
theorem o_eq (o : XOk X C W k) : OpR X (compareOp .Eq) (rEqM C.K) := o.K ▸ op_eqM o.u66
theorem o_ne (o : XOk X C W k) : OpR X (compareOp .NotEq) (rNeM C.K) := o.K ▸ op_neM o.u66
theorem o_in (o : XOk X C W k) : OpR X (compareOp .In) (rInM C.K C.w false) := o.K ▸ o.w ▸ op_inM o.u66
theorem o_nin (o : XOk X C W k) : OpR X (compareOp .NotIn) (rInM C.K C.w true) := o.K ▸ o.w ▸ op_notInM o.u66
theorem e_op {op : Operator} (ho : OpR X (binaryOp op) r) (h : Op2 C W b f r) (ha : DE X C W true a m) (hc : DE X C W true c m2) : DE X C W b (.BinOp a op c pos) (bin m m2 f) := de_op ho h ha hc
theorem e_cmp (ho : OpR X (compareOp op) r) (h : Op2 C W b f r) (ha : DE X C W true a m) (hc : DE X C W true c m2) (hm : behindInMarks op c = false := by rfl) : DE X C W b (.Compare a [op] [c] pos) (bin m m2 f) := de_cmp ho h ha hc hm
theorem t_cmp (ho : OpR X (compareOp op) r) (h : Op2 C W true f r) (ha : DE X C W true a m) (hc : DE X C W true c m2) (hm : behindInMarks op c = false := by rfl) : DT X C W (.Compare a [op] [c] pos) (bin m m2 f) := dt_cmp ho h.T ha hc hm
theorem e_chain (ho : OpR X (compareOp op) r) (ho' : OpR X (compareOp op') r') (hf : Op2 C W true f r) (hg : Op2 C W b g r') (ha : DE X C W true a m) (hb : DE X C W true c m2) (hc : DE X C W true d mx) (hm : lastMarks [op, op'] [c, d] = false := by with_unfolding_all rfl) : DE X C W b (.Compare a [op, op'] [c, d] pos) (chainM m m2 mx f g) := de_chain ho ho' hf hg ha hb hc hm
theorem t_chain (ho : OpR X (compareOp op) r) (ho' : OpR X (compareOp op') r') (hf : Op2 C W true f r) (hg : Op2 C W true g r') (ha : DE X C W true a m) (hb : DE X C W true c m2) (hc : DE X C W true d mx) (hm : lastMarks [op, op'] [c, d] = false := by with_unfolding_all rfl) : DT X C W (.Compare a [op, op'] [c, d] pos) (chainM m m2 mx f g) := dt_chain ho ho' hf hg ha hb hc hm
theorem t_val (ha : DE X C W true a m) (he : ∀ whole, isTrue a X.env whole = (do let v ← whole; standAt a.pos; holding [v] (truthy v)) := by intro _; rfl) : DT X C W a m := dt_val ha he
theorem e_ix (o : XOk X C W k) (ha : DE X C W true a m) (hc : DE X C W true c m2) (hs : PlainIx c := by intro _ _; rfl) : DE X C W b (.Subscript a c pos) (bin m m2 ixO) := de_ix o.K o.w o.u66 ha hc hs
theorem e_slice {lo hi : Option Expr} {l h : Bd} (o : XOk X C W k) (ha : DE X C W true a m) (hl : DB X C W lo l) (hh : DB X C W hi h) : DE X C W b (.Subscript a (.Slice lo hi none p2) pos) (sliceM m l h) := de_slice o.K ha hl hh
theorem e_fld {cn fn : Str} (o : XOk X C W k) (hA : AttrOk C cn fn) (he : DE X C W true e m) (hb : attributeBase e fn X.env (eval e X.env) = eval e X.env := by rfl) : DE X C W b (.Attribute e fn pos) (un m (fldO cn fn)) := de_fld o.K hA he hb
theorem e_un {u : UnaryOp} {f1 : O1} {q : V → Hp → VK → Prop} (ho : UnR X (unaryOp u) q) (h : Op1 C W b f1 q) (ha : DE X C W true a m) : DE X C W b (.UnaryOp u a pos) (un m f1) := de_un ho h ha
theorem e_and (ha : DE X C W true a m) (hc : DE X C W b (.BoolOp .And (c :: rest) pos) m2) : DE X C W b (.BoolOp .And (a :: c :: rest) pos) (andM m m2) := de_and ha hc rfl
theorem e_or (ha : DE X C W true a m) (hc : DE X C W b (.BoolOp .Or (c :: rest) pos) m2) : DE X C W b (.BoolOp .Or (a :: c :: rest) pos) (orM m m2) := de_or ha hc rfl
theorem e_not (ha : DE X C W true a m) : DE X C W b (.UnaryOp .Not a pos) (notM m) := de_not ha
theorem modC_ok : ∀ i j, modC i j = true → 0 < j := fun i j h => of_decide_eq_true h
/-! built-ins -/
section
variable {id T' : String} {q : List V → Hp → VK → Prop} {fa : OA}
theorem e_bl (hc : CallR X (.builtin id) q) (ho : OpA C W b fa q) (hm : X.mg x = none) (ha : DBs X C W (e :: es) ma) (hv : bootBuiltins x = some (.builtin id) := by rfl) (hg : Gl X x := by rfl) (hn : x ≠ "__name__" := by decide) (hdb : (x == ("__debug__" : Str)) = false := by rfl)
    (he : starEach (e :: es) X.env = (false, eval e X.env) :: starEach es X.env := by rfl) (hpl : (backTo pos (starEach es X.env)).any (·.1) = false := by rfl) : DE X C W b (.Call (.Name x p) (e :: es) [] pos) (appA ma fa) := de_callB hc ho hg hm hv ha hn hdb he hpl
theorem e_ty (hc : CallR X (.type T') q) (ho : OpA C W b fa q) (hm : X.mg x = none) (ha : DBs X C W (e :: es) ma) (hv : bootBuiltins x = some (.type T') := by rfl) (hg : Gl X x := by rfl) (hn : x ≠ "__name__" := by decide) (hdb : (x == ("__debug__" : Str)) = false := by rfl)
    (he : starEach (e :: es) X.env = (false, eval e X.env) :: starEach es X.env := by rfl) (hpl : (backTo pos (starEach es X.env)).any (·.1) = false := by rfl) : DE X C W b (.Call (.Name x p) (e :: es) [] pos) (appA ma fa) := de_callTy hc ho hg hm hv ha hn hdb he hpl
end
theorem c_len (o : XOk X C W k) : CallR X (.builtin "len") (rLenM C.K) := o.K ▸ cr_lenM
theorem c_all (o : XOk X C W k) : CallR X (.builtin "all") (rAll C.K) := o.K ▸ cr_all o.calm
theorem c_any (o : XOk X C W k) : CallR X (.builtin "any") (rAny C.K) := o.K ▸ cr_any o.calm
theorem c_sum (o : XOk X C W k) : CallR X (.builtin "sum") (rSum C.K) := o.K ▸ cr_sum o.calm
theorem c_list (o : XOk X C W k) : CallR X (.type "list") (rListM C.K) := o.K ▸ cr_listM o.calm
theorem c_sorted (o : XOk X C W k) : CallR X (.builtin "sorted") (rSortedM C.K) := o.K ▸ cr_sortedM o.calm
theorem c_dict (o : XOk X C W k) : CallR X (.type "dict") (rDictM C.K) := o.K ▸ cr_dictM o.calm
theorem c_tuple (o : XOk X C W k) : CallR X (.type "tuple") (fun xs H Q => ∃ p ys, xs = [.ref p] ∧ ((SqL C.K H p ys ∧ ∀ l, H l = none → Q (.ref l) (upd H l (.tup ys))) ∨ (SqT C.K H p ys ∧ Q (.ref p) H))) := o.K ▸ call_tuple_of
theorem e_isi {ty : String} (o : XOk X C W k) (hm : X.mg "isinstance" = none) (hmx : X.mg x = none) (he : DE X C W true e m) (hty : ty ∈ ["bool", "int", "str", "tuple", "list", "dict"] := by decide) (hg : Gl X "isinstance" := by rfl) (hgx : Gl X x := by rfl) (hvx : bootBuiltins x = some (.type ty) := by rfl) (hnx : x ≠ "__name__" := by decide) (hdx : (x == ("__debug__" : Str)) = false := by rfl)
    (hs : starEach [e, .Name x p2] X.env = (false, eval e X.env) :: starEach [.Name x p2] X.env := by rfl) (hs2 : starEach [.Name x p2] X.env = (false, eval (.Name x p2) X.env) :: starEach [] X.env := by rfl) (hpl : (backTo pos (starEach [.Name x p2] X.env)).any (·.1) = false := by rfl) :
    DE X C W b (.Call (.Name "isinstance" p) [e, .Name x p2] [] pos) (isiM ty m) := de_isi o.K hty hg hm hgx hmx hvx hnx hdx he hs hs2 hpl
/-! methods of lists and dicts -/
theorem e_append (o : XOk X C W k) (ho : DE X C W true a mo) (ha : DBs X C W [e] ma) (hbase : attributeBase a "append" X.env (eval a X.env) = eval a X.env := by rfl)
    (hfew : ((backTo cpos (starEach [e] X.env)).all (fun x => !x.1) && (backToKw cpos (keywordEach [] X.env)).all (fun x => x.1.isSome) && decide (([e] : List Expr).length + ([] : List Keyword).length + (if ([] : List Keyword).isEmpty then 0 else 1) < 30)) = true := by rfl)
    (hline : (apos.endLine == cpos.line) = true := by rfl) (hs : starEach [e] X.env = (false, eval e X.env) :: starEach [] X.env := by rfl) (hplain : (backTo cpos (starEach [] X.env)).any (·.1) = false := by rfl) :
    DE X C W b (.Call (.Attribute a "append" apos) [e] [] cpos) (lmM appendF mo ma) := de_lm o.K PySem.F.plainAttrs_list PySem.F.slot_list_append PySem.F.type_list_append mt_append appendF_ok ho ha hbase hfew hline hs hplain
theorem e_pop1 (o : XOk X C W k) (ho : DE X C W true a mo) (ha : DBs X C W [e] ma) (hbase : attributeBase a "pop" X.env (eval a X.env) = eval a X.env := by rfl)
    (hfew : ((backTo cpos (starEach [e] X.env)).all (fun x => !x.1) && (backToKw cpos (keywordEach [] X.env)).all (fun x => x.1.isSome) && decide (([e] : List Expr).length + ([] : List Keyword).length + (if ([] : List Keyword).isEmpty then 0 else 1) < 30)) = true := by rfl)
    (hline : (apos.endLine == cpos.line) = true := by rfl) (hs : starEach [e] X.env = (false, eval e X.env) :: starEach [] X.env := by rfl) (hplain : (backTo cpos (starEach [] X.env)).any (·.1) = false := by rfl) :
    DE X C W b (.Call (.Attribute a "pop" apos) [e] [] cpos) (lmM popF mo ma) := de_lm o.K PySem.F.plainAttrs_list PySem.F.slot_list_pop PySem.F.type_list_pop mt_popM popF_ok ho ha hbase hfew hline hs hplain
theorem e_pop0 (o : XOk X C W k) (ho : DE X C W true a mo) (hbase : attributeBase a "pop" X.env (eval a X.env) = eval a X.env := by rfl) (hline : (apos.endLine == cpos.line) = true := by rfl) :
    DE X C W b (.Call (.Attribute a "pop" apos) [] [] cpos) (lmM popF mo (argsM [])) := de_lm0 o.K PySem.F.plainAttrs_list PySem.F.slot_list_pop PySem.F.type_list_pop mt_popM popF_ok ho hbase hline
theorem m1_of {mn : Str} (hbase : attributeBase a mn X.env (eval a X.env) = eval a X.env := by rfl)
    (hfew : ((backTo cpos (starEach [e] X.env)).all (fun x => !x.1) && (backToKw cpos (keywordEach [] X.env)).all (fun x => x.1.isSome) && decide (([e] : List Expr).length + ([] : List Keyword).length + (if ([] : List Keyword).isEmpty then 0 else 1) < 30)) = true := by rfl)
    (hline : (apos.endLine == cpos.line) = true := by rfl) (ht : backTo cpos (starEach [e] X.env) = [(false, eval e X.env)] := by rfl) : M1 X a mn apos e cpos := ⟨hbase, hfew, hline, ht⟩
theorem m2_of {mn : Str} (hbase : attributeBase a mn X.env (eval a X.env) = eval a X.env := by rfl)
    (hfew : ((backTo cpos (starEach [e, d] X.env)).all (fun x => !x.1) && (backToKw cpos (keywordEach [] X.env)).all (fun x => x.1.isSome) && decide (([e, d] : List Expr).length + ([] : List Keyword).length + (if ([] : List Keyword).isEmpty then 0 else 1) < 30)) = true := by rfl)
    (hline : (apos.endLine == cpos.line) = true := by rfl) (ht : backTo cpos (starEach [e, d] X.env) = [(false, eval e X.env), (false, eval d X.env)] := by rfl) : M2 X a mn apos e d cpos := ⟨hbase, hfew, hline, ht⟩
theorem e_dget2 (o : XOk X C W k) (m : M2 X a "get" apos e d cpos) (ho : DE X C W true a mo) (he : DE X C W true e mk) (hf : DE X C W true d mx) : DE X C W b (.Call (.Attribute a "get" apos) [e, d] [] cpos) (dgetM mo mk mx) := de_dget2 o.u1 ho he hf m
theorem e_dpop1 (m : M1 X a "pop" apos e cpos) (ho : DE X C W true a mo) (he : DE X C W true e mk) : DE X C W b (.Call (.Attribute a "pop" apos) [e] [] cpos) (dpopM mo mk) := de_dpop1 ho he m
theorem e_dpop2 (m : M2 X a "pop" apos e d cpos) (ho : DE X C W true a mo) (he : DE X C W true e mk) (hf : DE X C W true d mx) : DE X C W b (.Call (.Attribute a "pop" apos) [e, d] [] cpos) (dpop2M mo mk mx) := de_dpop2 ho he hf m
/-! targets -/
theorem g_name (o : XOk X C W k) (i : Nat) (hi : X.N[i]? = some x := by rfl) (hx : locB X.env.scope x = true := by rfl) (hf : X.fn x = true ∨ X.env.scope.names.lookup x = some .local := by first | exact .inl rfl | exact .inr rfl) : PG X (.Name x pos) (gName i) := pg_name o.nd hi (loc_by hx) hf
theorem gs_cons {tg : Expr} {tgs : List Expr} {t : TG} {u : TGs} (h1 : PG X tg t) (h2 : PGs X tgs u) (hs : (assignEach (tg :: tgs) X.env).map (·.2) = assign tg X.env :: (assignEach tgs X.env).map (·.2) := by rfl) : PGs X (tg :: tgs) (gCons t u) := pgs_cons h1 h2 hs
theorem g_tup {kk : Nat} {t : TGs} {n : Nat} (o : XOk X C W k) (h : PGs X es t) (hn : (assignEach es X.env).length = n := by rfl) (hst : (assignEach es X.env).findIdx? (·.1) = none := by rfl) : PG X (.Tuple es kk pos) (gTup C.K n t) := by have z := pg_tup (pos := pos) (k := kk) o.calm h hn hst; rw [o.K] at z; exact z
/-! statements -/
variable {body orelse : List Stmt} {mb mc : MS} {tg iter : Expr} {sm : SM} {gt : TG} {tgt : Tgt}
theorem s_doc {x j pos pos'} : DS X C W (.Expr (.Constant (.str x) j pos) pos') skipM := impS ps_doc fun D σ H q => by
  obtain ⟨ρ, μ, S, R, p⟩ := q
  exact p σ H μ Ext.refl R fun a h => .inl h
theorem s_expr (he : DE X C W true e m) (hs : swapsWith e none pos.line X.env = pure false := by rfl) : DS X C W (.Expr e pos) (exprM m) := ds_expr he hs
theorem s_retSlot (i : Nat) (hN : X.N[i]? = some x := by rfl) (hv : visB X.env.scope x = true := by rfl) (hd : (x == ("__debug__" : Str)) = false := by rfl) (hcd : (x == ("__classdict__" : Str)) = false := by rfl) : DS X C W (.Return (some (.Name x pos)) pos') (retM (slot true i)) := ds_retSlot hN (vis_by hv) hd hcd
theorem s_set (o : XOk X C W k) (i : Nat) (he : DE X C W false e m) (hi : X.N[i]? = some x := by rfl) (hx : locB X.env.scope x = true := by rfl) (hs : swapsWith e (some (.Name x pos')) pos.line X.env = pure false := by rfl) (hf : X.fn x = true ∨ X.env.scope.names.lookup x = some .local := by first | exact .inl rfl | exact .inr rfl) :
    DS X C W (.Assign [.Name x pos'] e pos) (setM i m) := ds_set o.nd hi (loc_by hx) he hs hf
theorem s_asg (he : DE X C W true e m) (hg : PG X tg gt) (ht : TgOk C gt tgt) (hs : swapsWithSole [tg] e pos.line X.env = pure false := by rfl) (hw : swappedStores [tg] e X.env = pure none := by rfl) (h1 : (assignEach [tg] X.env).map (·.2) = [assign tg X.env] := by rfl) : DS X C W (.Assign [tg] e pos) (asgM tgt m) := ds_asg he hg ht hs hw h1
theorem s_par {kt k2 : Nat} {px py pt pt2 : Pos} (o : XOk X C W k) (i j : Nat) (ha : DA X C W [a, c] ma) (hi : X.N[i]? = some x := by rfl) (hj : X.N[j]? = some y := by rfl) (hij : i ≠ j := by decide) (hx : X.env.scope.names.lookup x = some .local := by rfl) (hy : X.env.scope.names.lookup y = some .local := by rfl)
    (hw : swappedStores [.Tuple [.Name x px, .Name y py] kt pt] (.Tuple [a, c] k2 pt2) X.env = pure (some [x, y]) := by rfl) (hs : swapsWithSole [.Tuple [.Name x px, .Name y py] kt pt] (.Tuple [a, c] k2 pt2) pos.line X.env = pure false := by rfl) :
    DS X C W (.Assign [.Tuple [.Name x px, .Name y py] kt pt] (.Tuple [a, c] k2 pt2) pos) (parM i j ma) := impS (ps_par o.calm o.nd hi hj hij hx hy ha hw hs) fun D σ H q => rd_par q
theorem s_par3 {kt k2 : Nat} {z : Str} {px py pz pt pt2 : Pos} (o : XOk X C W k) (i j l : Nat) (ha : DA X C W [a, c, d] ma) (hi : X.N[i]? = some x := by rfl) (hj : X.N[j]? = some y := by rfl) (hl : X.N[l]? = some z := by rfl) (hij : i ≠ j := by decide) (hil : i ≠ l := by decide) (hjl : j ≠ l := by decide)
    (hx : X.env.scope.names.lookup x = some .local := by rfl) (hy : X.env.scope.names.lookup y = some .local := by rfl) (hz : X.env.scope.names.lookup z = some .local := by rfl)
    (hw : swappedStores [.Tuple [.Name x px, .Name y py, .Name z pz] kt pt] (.Tuple [a, c, d] k2 pt2) X.env = pure (some [x, y, z]) := by rfl) (hs : swapsWithSole [.Tuple [.Name x px, .Name y py, .Name z pz] kt pt] (.Tuple [a, c, d] k2 pt2) pos.line X.env = pure false := by rfl) :
    DS X C W (.Assign [.Tuple [.Name x px, .Name y py, .Name z pz] kt pt] (.Tuple [a, c, d] k2 pt2) pos) (par3M i j l ma) := impS (ps_par3 o.calm o.nd hi hj hl hij hil hjl hx hy hz ha hw hs) fun D σ H q => rd_par3 q
theorem s_put (o : XOk X C W k) (he : DE X C W true e m) (ho : DE X C W true a mo) (hi : DE X C W true c mi) (ha : ∀ v, assign (.Subscript a c pos') X.env v = (do
      let ov ← holding [v] (eval a X.env)
      let iv ← holding [v, ov] (eval c X.env)
      standAt pos'
      holding [v, ov, iv] (setItem ov iv v)
      release [v, ov, iv] []) := by intro _; rfl) (hs : swapsWithSole [.Subscript a c pos'] e pos.line X.env = pure false := by rfl) (hw : swappedStores [.Subscript a c pos'] e X.env = pure none := by rfl)
    (h1 : (assignEach [.Subscript a c pos'] X.env).map (·.2) = [assign (.Subscript a c pos') X.env] := by rfl) : DS X C W (.Assign [.Subscript a c pos'] e pos) (putM m mo mi) := ds_put o.u1 he ho hi ha hs hw h1
theorem s_putOwn (o : XOk X C W k) (i : Nat) (he : DE X C W true e m) (hi : DE X C W true c mi) (hN : X.N[i]? = some x := by rfl) (hv : visB X.env.scope x = true := by rfl) (hd : (x == ("__debug__" : Str)) = false := by rfl) (hcd : (x == ("__classdict__" : Str)) = false := by rfl) (ha : ∀ v, assign (.Subscript (.Name x p2) c pos') X.env v = (do
      let ov ← holding [v] (eval (.Name x p2) X.env)
      let iv ← holding [v, ov] (eval c X.env)
      standAt pos'
      holding [v, ov, iv] (setItem ov iv v)
      release [v, ov, iv] []) := by intro _; rfl) (hs : swapsWithSole [.Subscript (.Name x p2) c pos'] e pos.line X.env = pure false := by rfl) (hw : swappedStores [.Subscript (.Name x p2) c pos'] e X.env = pure none := by rfl)
    (h1 : (assignEach [.Subscript (.Name x p2) c pos'] X.env).map (·.2) = [assign (.Subscript (.Name x p2) c pos') X.env] := by rfl) : DS X C W (.Assign [.Subscript (.Name x p2) c pos'] e pos) (putOwnM i m mi) := ds_putOwn o.u1 hN (vis_by hv) hd hcd he hi ha hs hw h1
theorem s_putFld {cn fn : Str} (o : XOk X C W k) (hA : AttrOk C cn fn) (he : DE X C W true e m) (ho : DE X C W true a mo) (hs : swapsWith e (some (.Attribute a fn pos')) pos.line X.env = pure false := by rfl) : DS X C W (.Assign [.Attribute a fn pos'] e pos) (putFldM cn fn m mo) := ds_putFld o.K hA he ho hs
theorem s_appendOwn (o : XOk X C W k) (i : Nat) (he : DE X C W true e m) (hN : X.N[i]? = some x := by rfl) (hv : visB X.env.scope x = true := by rfl) (hd : (x == ("__debug__" : Str)) = false := by rfl) (hcd : (x == ("__classdict__" : Str)) = false := by rfl) (hbase : attributeBase (.Name x p2) "append" X.env (eval (.Name x p2) X.env) = eval (.Name x p2) X.env := by rfl)
    (hfew : ((backTo cpos (starEach [e] X.env)).all (fun x => !x.1) && (backToKw cpos (keywordEach [] X.env)).all (fun x => x.1.isSome) && decide (([e] : List Expr).length + ([] : List Keyword).length + (if ([] : List Keyword).isEmpty then 0 else 1) < 30)) = true := by rfl)
    (hline : (apos.endLine == cpos.line) = true := by rfl) (hs : starEach [e] X.env = (false, eval e X.env) :: starEach [] X.env := by rfl) (hplain : (backTo cpos (starEach [] X.env)).any (·.1) = false := by rfl) (hsw : swapsWith (.Call (.Attribute (.Name x p2) "append" apos) [e] [] cpos) none pos.line X.env = pure false := by rfl) :
    DS X C W (.Expr (.Call (.Attribute (.Name x p2) "append" apos) [e] [] cpos) pos) (appendOwnM i m) := ds_appendOwn o.K hN (vis_by hv) hd hcd he hbase hfew hline hs hplain hsw
theorem s_for (o : XOk X C W k) (hp : PassesOwn (model X.prog X.w) X.A X.env X.xe) (hi : DI X C W true tg iter sm) (hg : PG X tg gt) (ht : TgOk C gt tgt) (hb : DSs X C W body mb) (hs : ∀ x, foldedSetIterable iter X.env x = pure x := by intro _; rfl) : DS X C W (.For tg iter body [] pos) (forM sm tgt mb) := ds_for hp o.calm hi hg ht hb hs
/-! what is walked -/
theorem i_seqF {o' : Bool} (o : XOk X C W k) (he : DE X C W false e m) : DI X C W o' tg e (seqS m) := di_seq o.K (fun _ => rfl) he
theorem i_seqT (o : XOk X C W k) (he : DE X C W true e m) : DI X C W false tg e (seqS m) := di_seq o.K (fun z => Bool.noConfusion z) he
theorem i_dict {o' : Bool} (he : DE X C W true e m) : DI X C W o' tg e (dictS m) := di_dict he
theorem i_range1 {o' : Bool} (hm0 : X.mg "range" = none) (hi : DBs X C W [a] (argsM [m])) (hg0 : Gl X "range" := by rfl) (hs0 : starEach [a] X.env = [(false, eval a X.env)] := by rfl) : DI X C W o' tg (.Call (.Name "range" p) [a] [] pos) (range1S m) := di_range1 hg0 hm0 hi hs0
theorem i_range2 {o' : Bool} (hm0 : X.mg "range" = none) (hi : DBs X C W [a, c] (argsM [m, m2])) (hg0 : Gl X "range" := by rfl) (hs0 : starEach [a, c] X.env = [(false, eval a X.env), (false, eval c X.env)] := by rfl) (hs1 : starEach [c] X.env = [(false, eval c X.env)] := by rfl) : DI X C W o' tg (.Call (.Name "range" p) [a, c] [] pos) (range2S (argsM [m, m2])) := di_range2 hg0 hm0 hi hs0 hs1
theorem i_zipT {o' : Bool} {elts : List Expr} {kk : Nat} {tpos : Pos} (o : XOk X C W k) (hm : X.mg "zip" = none) (ha : DBs X C W [e, d] ma) (hg : Gl X "zip" := by rfl) (hs : starEach [e, d] X.env = (false, eval e X.env) :: starEach [d] X.env := by rfl) (hpl : (backTo pos (starEach [d] X.env)).any (·.1) = false := by rfl) : DI X C W o' (.Tuple elts kk tpos) (.Call (.Name "zip" p) [e, d] [] pos) (zipTS ma) := di_zipT o.K hg hm ha hs hpl
/-! comprehensions -/
variable {elt kx vx : Expr} {ifs : List Expr} {scope : Scope}
theorem e_lc (o : XOk X C W k) (own : List (Str × Nat)) (hi : DI X C W false tg iter sm) (hg : ∀ (s : Shared) (H : Hp) (L : Addr) (cl : List (Str × Addr)) (fp : List Addr), PG (X.blk s H scope (compEnvC scope cl L X.env) fp) tg gt) (tw : TgW (own.map (·.2)) gt tgt C)
    (ht : ∀ (s : Shared) (H : Hp) (L : Addr) (cl : List (Str × Addr)) (fp : List Addr), XOk (X.blk s H scope (compEnvC scope cl L X.env) fp) C noX k → DTs (X.blk s H scope (compEnvC scope cl L X.env) fp) C ifs mt)
    (he : ∀ (s : Shared) (H : Hp) (L : Addr) (cl : List (Str × Addr)) (fp : List Addr), XOk (X.blk s H scope (compEnvC scope cl L X.env) fp) C noX k → DE (X.blk s H scope (compEnvC scope cl L X.env) fp) C noX true elt me) (ok : blkC X.N X.env.scope scope own = true := by rfl) (hs : ∀ x, foldedSetIterable iter X.env x = pure x := by intro _; rfl) :
    DE X C W b (.ListComp elt [⟨tg, iter, ifs, 0⟩] scope pos) (lcM sm (own.map (·.2)) tgt mt me) := de_lc o.calm o.nd hi (blkOk_by ok) hg tw (fun s H L cl fp => ht s H L cl fp o.blk) (fun s H L cl fp => he s H L cl fp o.blk) hs
theorem e_dc (o : XOk X C W k) (own : List (Str × Nat)) (hi : DI X C W false tg iter sm) (hg : ∀ (s : Shared) (H : Hp) (L : Addr) (cl : List (Str × Addr)) (fp : List Addr), PG (X.blk s H scope (compEnvC scope cl L X.env) fp) tg gt) (tw : TgW (own.map (·.2)) gt tgt C)
    (ht : ∀ (s : Shared) (H : Hp) (L : Addr) (cl : List (Str × Addr)) (fp : List Addr), XOk (X.blk s H scope (compEnvC scope cl L X.env) fp) C noX k → DTs (X.blk s H scope (compEnvC scope cl L X.env) fp) C ifs mt)
    (hk : ∀ (s : Shared) (H : Hp) (L : Addr) (cl : List (Str × Addr)) (fp : List Addr), XOk (X.blk s H scope (compEnvC scope cl L X.env) fp) C noX k → DE (X.blk s H scope (compEnvC scope cl L X.env) fp) C noX true kx mk)
    (he : ∀ (s : Shared) (H : Hp) (L : Addr) (cl : List (Str × Addr)) (fp : List Addr), XOk (X.blk s H scope (compEnvC scope cl L X.env) fp) C noX k → DE (X.blk s H scope (compEnvC scope cl L X.env) fp) C noX true vx me) (ok : blkC X.N X.env.scope scope own = true := by rfl) (hs : ∀ x, foldedSetIterable iter X.env x = pure x := by intro _; rfl) :
    DE X C W b (.DictComp kx vx [⟨tg, iter, ifs, 0⟩] scope pos) (dcM sm (own.map (·.2)) tgt mt mk me) := de_dc o.calm o.nd hi (blkOk_by ok) hg tw (fun s H L cl fp => ht s H L cl fp o.blk) (fun s H L cl fp => hk s H L cl fp o.blk) (fun s H L cl fp => he s H L cl fp o.blk) hs
theorem s_setLc {py : Pos} (o : XOk X C W k) (i : Nat) (own : List (Str × Nat)) (hi : DI X C W false tg iter sm) (hg : ∀ (s : Shared) (H : Hp) (L : Addr) (cl : List (Str × Addr)) (fp : List Addr), PG (X.blk s H scope (compEnvC scope cl L X.env) fp) tg gt) (tw : TgW (own.map (·.2)) gt tgt C)
    (ht : ∀ (s : Shared) (H : Hp) (L : Addr) (cl : List (Str × Addr)) (fp : List Addr), XOk (X.blk s H scope (compEnvC scope cl L X.env) fp) C noX k → DTs (X.blk s H scope (compEnvC scope cl L X.env) fp) C ifs mt)
    (he : ∀ (s : Shared) (H : Hp) (L : Addr) (cl : List (Str × Addr)) (fp : List Addr), XOk (X.blk s H scope (compEnvC scope cl L X.env) fp) C noX k → DE (X.blk s H scope (compEnvC scope cl L X.env) fp) C noX true elt me) (hy : X.N[i]? = some y := by rfl) (hyl : X.env.scope.names.lookup y = some .local := by rfl) (ok : blkC X.N X.env.scope scope own = true := by rfl) (hs : ∀ x, foldedSetIterable iter X.env x = pure x := by intro _; rfl)
    (hsw : swapsWith (.ListComp elt [⟨tg, iter, ifs, 0⟩] scope pos) (some (.Name y py)) spos.line X.env = pure true := by rfl) :
    DS X C W (.Assign [.Name y py] (.ListComp elt [⟨tg, iter, ifs, 0⟩] scope pos) spos) (setM i (lcM sm (own.map (·.2)) tgt mt me)) := ds_setLc o.calm o.nd hy hyl hsw hi (blkOk_by ok) hg tw (fun s H L cl fp => ht s H L cl fp o.blk) (fun s H L cl fp => he s H L cl fp o.blk) hs
theorem s_setLcE {py : Pos} (o : XOk X C W k) (i : Nat) (own : List (Str × Nat)) (hi : DI X C W false tg iter sm) (hg : ∀ (s : Shared) (H : Hp) (L : Addr) (cl : List (Str × Addr)) (fp : List Addr), PG (X.blk s H scope (compEnvC scope cl L X.env) fp) tg gt) (tw : TgW (own.map (·.2)) gt tgt C)
    (ht : ∀ (s : Shared) (H : Hp) (L : Addr) (cl : List (Str × Addr)) (fp : List Addr), XOk (X.blk s H scope (compEnvC scope cl L X.env) fp) C noX k → DTs (X.blk s H scope (compEnvC scope cl L X.env) fp) C ifs mt)
    (he : ∀ (s : Shared) (H : Hp) (L : Addr) (cl : List (Str × Addr)) (fp : List Addr), XOk (X.blk s H scope (compEnvC scope cl L X.env) fp) C noX k → DE (X.blk s H scope (compEnvC scope cl L X.env) fp) C noX true elt me) (hy : X.N[i]? = some y := by rfl) (hyl : X.env.scope.names.lookup y = some .local := by rfl) (ok : blkC X.N X.env.scope scope own = true := by rfl) (hs : ∀ x, foldedSetIterable iter X.env x = pure x := by intro _; rfl)
    (hsw : swapsWith (.ListComp elt [⟨tg, iter, ifs, 0⟩] scope pos) (some (.Name y py)) spos.line X.env = pure true := by rfl) :
    DS X C W (.Assign [.Name y py] (.ListComp elt [⟨tg, iter, ifs, 0⟩] scope pos) spos) (setM i (escM (lcM sm (own.map (·.2)) tgt mt me))) := ds_setLcE o.calm o.nd hy hyl hsw hi (blkOk_by ok) hg tw (fun s H L cl fp => ht s H L cl fp o.blk) (fun s H L cl fp => he s H L cl fp o.blk) hs
theorem s_setDc {py : Pos} (o : XOk X C W k) (i : Nat) (own : List (Str × Nat)) (hi : DI X C W false tg iter sm) (hg : ∀ (s : Shared) (H : Hp) (L : Addr) (cl : List (Str × Addr)) (fp : List Addr), PG (X.blk s H scope (compEnvC scope cl L X.env) fp) tg gt) (tw : TgW (own.map (·.2)) gt tgt C)
    (ht : ∀ (s : Shared) (H : Hp) (L : Addr) (cl : List (Str × Addr)) (fp : List Addr), XOk (X.blk s H scope (compEnvC scope cl L X.env) fp) C noX k → DTs (X.blk s H scope (compEnvC scope cl L X.env) fp) C ifs mt)
    (hk : ∀ (s : Shared) (H : Hp) (L : Addr) (cl : List (Str × Addr)) (fp : List Addr), XOk (X.blk s H scope (compEnvC scope cl L X.env) fp) C noX k → DE (X.blk s H scope (compEnvC scope cl L X.env) fp) C noX true kx mk)
    (he : ∀ (s : Shared) (H : Hp) (L : Addr) (cl : List (Str × Addr)) (fp : List Addr), XOk (X.blk s H scope (compEnvC scope cl L X.env) fp) C noX k → DE (X.blk s H scope (compEnvC scope cl L X.env) fp) C noX true vx me) (hy : X.N[i]? = some y := by rfl) (hyl : X.env.scope.names.lookup y = some .local := by rfl) (ok : blkC X.N X.env.scope scope own = true := by rfl) (hs : ∀ x, foldedSetIterable iter X.env x = pure x := by intro _; rfl)
    (hsw : swapsWith (.DictComp kx vx [⟨tg, iter, ifs, 0⟩] scope pos) (some (.Name y py)) spos.line X.env = pure true := by rfl) :
    DS X C W (.Assign [.Name y py] (.DictComp kx vx [⟨tg, iter, ifs, 0⟩] scope pos) spos) (setM i (dcM sm (own.map (·.2)) tgt mt mk me)) := ds_setDc o.calm o.nd hy hyl hsw hi (blkOk_by ok) hg tw (fun s H L cl fp => ht s H L cl fp o.blk) (fun s H L cl fp => hk s H L cl fp o.blk) (fun s H L cl fp => he s H L cl fp o.blk) hs
theorem s_setDcE {py : Pos} (o : XOk X C W k) (i : Nat) (own : List (Str × Nat)) (hi : DI X C W false tg iter sm) (hg : ∀ (s : Shared) (H : Hp) (L : Addr) (cl : List (Str × Addr)) (fp : List Addr), PG (X.blk s H scope (compEnvC scope cl L X.env) fp) tg gt) (tw : TgW (own.map (·.2)) gt tgt C)
    (ht : ∀ (s : Shared) (H : Hp) (L : Addr) (cl : List (Str × Addr)) (fp : List Addr), XOk (X.blk s H scope (compEnvC scope cl L X.env) fp) C noX k → DTs (X.blk s H scope (compEnvC scope cl L X.env) fp) C ifs mt)
    (hk : ∀ (s : Shared) (H : Hp) (L : Addr) (cl : List (Str × Addr)) (fp : List Addr), XOk (X.blk s H scope (compEnvC scope cl L X.env) fp) C noX k → DE (X.blk s H scope (compEnvC scope cl L X.env) fp) C noX true kx mk)
    (he : ∀ (s : Shared) (H : Hp) (L : Addr) (cl : List (Str × Addr)) (fp : List Addr), XOk (X.blk s H scope (compEnvC scope cl L X.env) fp) C noX k → DE (X.blk s H scope (compEnvC scope cl L X.env) fp) C noX true vx me) (hy : X.N[i]? = some y := by rfl) (hyl : X.env.scope.names.lookup y = some .local := by rfl) (ok : blkC X.N X.env.scope scope own = true := by rfl) (hs : ∀ x, foldedSetIterable iter X.env x = pure x := by intro _; rfl)
    (hsw : swapsWith (.DictComp kx vx [⟨tg, iter, ifs, 0⟩] scope pos) (some (.Name y py)) spos.line X.env = pure true := by rfl) :
    DS X C W (.Assign [.Name y py] (.DictComp kx vx [⟨tg, iter, ifs, 0⟩] scope pos) spos) (setM i (escM (dcM sm (own.map (·.2)) tgt mt mk me))) := ds_setDcE o.calm o.nd hy hyl hsw hi (blkOk_by ok) hg tw (fun s H L cl fp => ht s H L cl fp o.blk) (fun s H L cl fp => hk s H L cl fp o.blk) (fun s H L cl fp => he s H L cl fp o.blk) hs
end
end DL

/-! The data layer: own exceptions; constants of the module. -/
namespace DL
open PySem PySem.Spec L2
/-- an own exception without own __init__, from ValueError -/
structure DExc (K : PySem.W.Frag) (mg : Str → Option Value) (C : Cn) (c : Str) : Prop where
  ok : ∃ A, PySem.W.excIn K A He.veBase "ValueError.__new__" = true ∧ mg c = some (.ref A) ∧ C.mg c = some (.ref A) ∧ PySem.W.keepIn K (.ref A) = true ∧ PySem.W.subIn K (.ref A) (.type "BaseException") = some true ∧ PySem.W.typeIn K (.ref A) = some (.type "type")
section
variable {C : Cn} {W : XK} {X : Cx} {k j : Nat}
theorem s_raise {c m : Str} {jj : Nat} {p p2 pos rpos : Pos} (o : XOk X C W k) (R : DExc X.K X.mg C c) (hg : Gl X c := by rfl) (hdb : (c == ("__debug__" : Str)) = false := by rfl) : DS X C W (.Raise (some (.Call (.Name c p) [.Constant (.str m) jj p2] [] pos)) none rpos) (raiseM c) := by
  obtain ⟨A, h1, h2, h3, h4, h5, h6⟩ := R.ok
  exact ds_raise o.calm o.tk PySem.F.excBase_ValueError h1 h2 h3 h4 (raises_own h5 h6) hg hdb
end
/-! ### constants -/
mutual
def eqD : D → D → Bool
  | .non, .non => true
  | .bl a, .bl b => a == b
  | .int a, .int b => a == b
  | .str a, .str b => decide (a = b)
  | .tup a, .tup b => eqDs a b
  | .kl a, .kl b => eqDs a b
  | _, _ => false
def eqDs : List D → List D → Bool
  | [], [] => true
  | a :: r, b :: s => eqD a b && eqDs r s
  | _, _ => false
end
mutual
theorem eqD_ok : ∀ {a b : D}, eqD a b = true → a = b
  | .non, b, h => by cases b <;> first | rfl | (unfold eqD at h; cases h)
  | .bl a, b, h => by cases b <;> first | (unfold eqD at h; rw [beq_iff_eq.mp h]) | (unfold eqD at h; cases h)
  | .int a, b, h => by cases b <;> first | (unfold eqD at h; rw [beq_iff_eq.mp h]) | (unfold eqD at h; cases h)
  | .str a, b, h => by cases b <;> first | (unfold eqD at h; rw [of_decide_eq_true h]) | (unfold eqD at h; cases h)
  | .tup a, b, h => by cases b <;> first | (unfold eqD at h; rw [eqDs_ok h]) | (unfold eqD at h; cases h)
  | .kl a, b, h => by cases b <;> first | (unfold eqD at h; rw [eqDs_ok h]) | (unfold eqD at h; cases h)
  | .ref a, b, h => by cases b <;> (unfold eqD at h; cases h)
  | .fn a, b, h => by cases b <;> (unfold eqD at h; cases h)
  | .kd a c, b, h => by cases b <;> (unfold eqD at h; cases h)
theorem eqDs_ok : ∀ {a b : List D}, eqDs a b = true → a = b
  | [], [], _ => rfl
  | [], _ :: _, h => by unfold eqDs at h; cases h
  | _ :: _, [], h => by unfold eqDs at h; cases h
  | a :: r, b :: s, h => by
    unfold eqDs at h
    have h := Bool.and_eq_true_iff.mp h
    rw [eqD_ok h.1, eqDs_ok h.2]
end
/-- a value of the module as data -/
def absD (K : PySem.W.Frag) : Nat → Value → Option D
  | _, .none => some .non
  | _, .bool b => some (.bl b)
  | _, .int i _ => some (.int i)
  | _, .str x _ => some (.str x)
  | 0, _ => none
  | n + 1, .ref a => (match K.lookup a with
    | some ⟨.type c, od, .seq its _, _⟩ => if its.size ≤ line then (match mapO (absD K n) its.toList with
      | some ds => if c = "tuple" then some (.tup ds) else if c = "list" ∧ od = none then some (.kl ds) else none
      | none => none) else none
    | _ => none)
  | _ + 1, _ => none
theorem absD_ok {K : PySem.W.Frag} {C : Cn} (hK : K = C.K) : ∀ (n : Nat) (u : Value) (d : D), absD K n u = some d → ∃ v, RelV v u ∧ ∀ (H : Hp) (μ : List Addr), RD C H μ v d := by
  intro n
  induction n with
  | zero =>
    intro u d h
    cases u with
    | none => cases h; exact ⟨.non, rfl, fun _ _ => .non⟩
    | bool b => cases h; exact ⟨.bl b, rfl, fun _ _ => .bl b⟩
    | int i t => cases h; exact ⟨.int i, ⟨t, rfl⟩, fun _ _ => .int i⟩
    | str x t => cases h; exact ⟨.str x, ⟨t, rfl⟩, fun _ _ => .str x⟩
    | _ => cases h
  | succ n ih =>
    intro u d h
    cases u with
    | none => cases h; exact ⟨.non, rfl, fun _ _ => .non⟩
    | bool b => cases h; exact ⟨.bl b, rfl, fun _ _ => .bl b⟩
    | int i t => cases h; exact ⟨.int i, ⟨t, rfl⟩, fun _ _ => .int i⟩
    | str x t => cases h; exact ⟨.str x, ⟨t, rfl⟩, fun _ _ => .str x⟩
    | ref a =>
      unfold absD at h
      split at h
      · rename_i c od its m sl e
        split at h
        · rename_i hz
          split at h
          · rename_i ds em
            have all : ∀ {us : List Value} {es : List D}, mapO (absD K n) us = some es → ∃ vs, Vals vs us ∧ ∀ (H : Hp) (μ : List Addr), RDs C H μ vs es := by
              intro us
              induction us with
              | nil => intro es h; unfold mapO at h; cases h; exact ⟨[], .nil, fun _ _ => .nil⟩
              | cons u r ih2 =>
                intro es h
                unfold mapO at h
                cases h1 : absD K n u with
                | none => rw [h1] at h; cases h
                | some x =>
                  rw [h1] at h
                  dsimp only at h
                  cases h2 : mapO (absD K n) r with
                  | none => rw [h2] at h; cases h
                  | some xs =>
                    rw [h2] at h
                    cases h
                    obtain ⟨v, r1, r2⟩ := ih u x h1
                    obtain ⟨vs, r3, r4⟩ := ih2 h2
                    exact ⟨v :: vs, .cons r1 r3, fun H μ => .cons (r2 H μ) (r4 H μ)⟩
            obtain ⟨vs, r1, r2⟩ := all em
            have hl : ds.length ≤ line := by rw [← (r2 (fun _ => none) []).length, r1.length, Array.length_toList]; exact hz
            split at h
            · rename_i hc
              cases h
              exact ⟨.ref a, rfl, fun H μ => .tup (.inr ⟨_, its, m, by rw [← hK]; exact e, by rw [hc], rfl, by rw [line_eq]; exact hz, r1⟩) (r2 H μ) hl⟩
            · split at h
              · rename_i hc
                cases h
                exact ⟨.ref a, rfl, fun H μ => .kl (.inr ⟨_, its, m, by rw [← hK]; exact e, by rw [hc.1], hc.2, rfl, by rw [line_eq]; exact hz, r1⟩) (r2 H μ) hl⟩
              · cases h
          · cases h
        · cases h
      · cases h
    | _ => cases h
/-- the module's name holds that data -/
def conD (K : PySem.W.Frag) (x : Str) (d : D) : Bool := match PySem.W.nsIn K mainGlobals x with
  | some (some u) => (match absD K 8 u with
    | some e => eqD e d
    | none => false)
  | _ => false
theorem conD_ok {K : PySem.W.Frag} {h : Heap} {mg : Str → Option Value} {C : Cn} (hK : K = C.K) (XX : K.In h) (G : h.Ns mainGlobals mg) {x : Str} {d : D} (e : conD K x d = true) : DCon mg C x d := by
  unfold conD at e
  split at e
  · rename_i u hu
    split at e
    · rename_i d' hd
      have := eqD_ok e
      subst this
      obtain ⟨v, r, rd⟩ := absD_ok hK 8 u d' hd
      exact ⟨u, v, PySem.W.mg_of XX G hu, r, rd⟩
    · cases e
  · cases e
end DL
namespace DL
open PySem PySem.Spec L2
def keyS (e : DictEntry) : Option Str := match e.key with
  | .str x _ => some x
  | _ => none
/-- a table of the module with text keys -/
def tabD (K : PySem.W.Frag) (x : Str) (ks : List Str) (ds : List D) : Bool := match K.lookup (He.ga K x) with
  | some ⟨_, _, .dict es _, _⟩ => decide (es.toList.map keyS = ks.map some) && ((match mapO (fun e : DictEntry => absD K 8 e.val) es.toList with
    | some es' => eqDs es' ds
    | none => false) && decide (ks.length = ds.length))
  | _ => false
theorem find_keys {C : Cn} {K : PySem.W.Frag} (hK : K = C.K) : ∀ {es : List DictEntry} {ks : List Str} {ds : List D}, es.map keyS = ks.map some → mapO (fun e : DictEntry => absD K 8 e.val) es = some ds →
    ∃ vs, (∀ H μ, RDs C H μ vs ds) ∧ (es.any (·.refKey) = false) ∧ ∀ z : Str, RelO ((ks.zip vs).lookup z) ((es.find? (·.key.isStr z)).map (·.val)) := by
  intro es
  induction es with
  | nil =>
    intro ks ds h1 h2
    cases ks with
    | nil => unfold mapO at h2; cases h2; exact ⟨[], fun _ _ => .nil, rfl, fun z => trivial⟩
    | cons _ _ => cases h1
  | cons e r ih =>
    intro ks ds h1 h2
    cases ks with
    | nil => cases h1
    | cons k ks =>
      rw [List.map_cons, List.map_cons] at h1
      injection h1 with h3 h4
      unfold mapO at h2
      cases h5 : absD K 8 e.val with
      | none => rw [h5] at h2; cases h2
      | some d =>
        rw [h5] at h2
        dsimp only at h2
        cases h6 : mapO (fun e : DictEntry => absD K 8 e.val) r with
        | none => rw [h6] at h2; cases h2
        | some xs =>
          rw [h6] at h2
          cases h2
          obtain ⟨v, r1, r2⟩ := absD_ok hK 8 e.val d h5
          obtain ⟨vs, r3, r4, r5⟩ := ih h4 h6
          unfold keyS at h3
          split at h3
          · rename_i x t hk
            cases h3
            refine ⟨v :: vs, fun H μ => .cons (r2 H μ) (r3 H μ), ?_, fun z => ?_⟩
            · rw [List.any_cons, r4, Bool.or_false]
              unfold DictEntry.refKey
              rw [hk]
            · rw [List.zip_cons_cons, List.lookup_cons, List.find?_cons]
              have hz : e.key.isStr z = (z == k) := by
                rw [hk]
                show (k == z) = (z == k)
                exact Bool.eq_iff_iff.mpr ⟨fun h => by rw [beq_iff_eq.mp h]; exact beq_self_eq_true _, fun h => by rw [beq_iff_eq.mp h]; exact beq_self_eq_true _⟩
              rw [hz]
              cases hq : (z == k) with
              | true => exact r1
              | false => exact r5 z
          · cases h3
theorem tabD_ok {K : PySem.W.Frag} {mg : Str → Option Value} {C : Cn} {w : World} (hK : K = C.K) (hw : w = C.w) {x : Str} {ks : List Str} {ds : List D} (g : mg x = some (.ref (He.ga K x))) (T : ∃ es n, KDict K w (He.ga K x) es n) (e : tabD K x ks ds = true) : DCon mg C x (.kd ks ds) := by
  subst hK
  subst hw
  obtain ⟨es, n, T⟩ := T
  unfold tabD at e
  rw [T.at_] at e
  dsimp only at e
  rw [Bool.and_eq_true, Bool.and_eq_true] at e
  obtain ⟨e1, e2, e3⟩ := e
  split at e2
  · rename_i es' em
    have := eqDs_ok e2
    subst this
    obtain ⟨vs, r1, r2, r3⟩ := find_keys (C := C) rfl (of_decide_eq_true e1) em
    refine ⟨.ref (He.ga C.K x), .ref (He.ga C.K x), g, rfl, fun H μ => .kd T (fun z => ?_) (r1 H μ) (of_decide_eq_true e3)⟩
    unfold PySem.W.nsIn
    rw [T.at_]
    dsimp only
    have := r3 z
    cases q : es.toList.find? (·.key.isStr z) with
    | some e => rw [q] at this; exact ⟨_, rfl, this⟩
    | none => rw [q] at this; rw [r2]; exact ⟨none, rfl, this⟩
  · cases e2
end DL

/-! The data layer: the law's end. -/
namespace DL
open PySem PySem.Spec L2
section
variable {C : Cn} {P : Program} {w : World} {K : PySem.W.Frag} {mg : Str → Option Value} {base : Heap} {H : Hp} {μ : List Addr} {S : Sto}
/-- as fn_dl, the code object told -/
theorem fn_dlC {x qual : Str} {params : Arguments} {body : List Stmt} {scope : Scope} {pp : Str × Option Str} {fd : FuncData} {N ps : List Str} {k : Nat} {mb : MS} {n : Nat} (F : FunD K x qual params body scope [] [] (He.fAd K pp) fd) (hS : C8.scC N ps scope = true) (hn : ps.length = n)
    (hbody : ∀ (cdv : Value) (A : Around) (outer : List Env) (s : Shared) (H : Hp) (E : XK), cdv = .ref (He.codeOf K pp) → Room k (A.deeper (PyProof.Rows.envOfC qual scope s.heap.objs.size (He.fAd K pp) cdv)) → DSs (cxOf (L2.CX P w) P w K mg base N qual scope (He.fAd K pp) cdv A outer s H E) C E body mb) :
    FnOk P w K mg base (L2.CX P w) (k + 1) (He.fAd K pp) fd ps (spF C n (runF N.length mb)) := by
  obtain ⟨oc, od, dV, kV, doc, pm, an, cdv, ct, osl, rfl, lk, hcd, _, _⟩ := F.ex
  refine fn_of lk hcd (C8.fnScope_by hS) (fun vs H Q E h => by rw [spF_len vs H Q E h, hn]) fun A outer s H vs Q E hr h => ⟨_, hbody cdv A outer s H E ?_ hr, run_tS h⟩
  obtain ⟨c, rfl⟩ := He.codeIn_ref hcd
  rw [He.codeOf_eq lk rfl]
/-- the law's argument -/
def LawIn (ns : List Int) (t : T) (S : Sto) : Prop := (t = .im (.kl (ns.map D.int)) ∧ S = []) ∨ (t = .im (.ref 0) ∧ S = [.lst (ns.map D.int)])
theorem law_sp {F : FS} {a : Addr} {ns : List Int} (h : ∀ t S, LawIn ns t S → ∃ S', F [t] S = .ok (.im (.bl true)) S') (hl : ns.length ≤ line) (tb : ∀ p ∈ C.T, H p.1 = some (.tbl #[])) (hq : SqL C.K H a (ns.map V.int)) :
    spF C 1 F [.ref a] H (fun v _ => v = .bl true) fun _ _ _ => False := by
  have tabs : LamX.Tabs C.T H := fun p hp => .nil (tb p hp)
  have fin : ∀ {t : T} {S S' : Sto} {μ : List Addr}, F [t] S = .ok (.im (.bl true)) S' → PostC C (fun _ _ _ => False) (ArgsOwn [V.ref a] [t]) H μ (fun v _ => v = .bl true) (F [t] S) := fun {t S S' μ} e => by
    rw [e]
    intro v H' μ' _ r _ _
    exact rt_bl r
  have one : ∀ {t : T} {μ : List Addr}, t.own = false → RT C H μ (.ref a) t → ArgsC C H μ [V.ref a] [t] := fun {t μ} ho r => ⟨.cons r .nil, fun i j t' u b h1 h2 => by
    cases i with
    | zero => cases h1; rw [ho] at h2; cases h2
    | succ i => simp at h1⟩
  rcases hq with (hq | ⟨o, hq⟩) | hq
  · obtain ⟨S', e⟩ := h (.im (.ref 0)) [.lst (ns.map D.int)] (.inr ⟨rfl, rfl⟩)
    refine ⟨[.im (.ref 0)], [a], [.lst (ns.map D.int)], rfl, ⟨rfl, List.nodup_cons.mpr ⟨by simp, List.nodup_nil⟩, fun n b o h1 h2 => ?_, tabs⟩, one rfl (RD.ref rfl), fin e⟩
    cases n with
    | zero =>
      cases h1; cases h2
      exact ⟨_, hq, .ints ns, by rw [List.length_map]; exact hl⟩
    | succ n => simp at h1
  · obtain ⟨S', e⟩ := h (.im (.kl (ns.map D.int))) [] (.inl ⟨rfl, rfl⟩)
    exact ⟨[.im (.kl (ns.map D.int))], [], [], rfl, ⟨rfl, List.nodup_nil, fun n b o h1 h2 => by simp at h1, tabs⟩, one rfl (RD.kl (.inl ⟨o, hq⟩) (.ints ns) (by rw [List.length_map]; exact hl)), fin e⟩
  · obtain ⟨S', e⟩ := h (.im (.kl (ns.map D.int))) [] (.inl ⟨rfl, rfl⟩)
    exact ⟨[.im (.kl (ns.map D.int))], [], [], rfl, ⟨rfl, List.nodup_nil, fun n b o h1 h2 => by simp at h1, tabs⟩, one rfl (RD.kl (.inr hq) (.ints ns) (by rw [List.length_map]; exact hl)), fin e⟩
/-- nothing is let out -/
theorem cx_no {P : Program} {w : World} {s s' : Shared} {e : Value} (h : L2.CX P w [] H s (fun _ _ _ => False) e s') : False := by
  obtain ⟨_, _, _, _, _, _, _, _, _, _, _, _, z⟩ := h
  exact z.elim
/-- the facts of a law from the head -/
def mkCn (w : World) (K : PySem.W.Frag) (mg : Str → Option Value) (T : List (Addr × Str)) : Cn := { K := K, mg := mg, w := w, nm := fun _ => none, T := T, isFn := fun _ _ h => by cases h }
theorem attr_of {T : List (Addr × Str)} {c f : Str} (g : mg c = some (.ref (He.ga K c))) (h : NoAttr K (He.ga K c) f) : AttrOk (mkCn w K mg T) c f := ⟨fun A e => by
  have e : mg c = some (.ref A) := e
  rw [g] at e
  cases e
  exact h⟩
theorem exc_of {T : List (Addr × Str)} {c : Str} (g : mg c = some (.ref (He.ga K c))) (h : (He.Fa.exc c).ok K = true) : DExc K mg (mkCn w K mg T) c := ⟨by
  obtain ⟨h1, h2, h3, h4⟩ := He.exc_ok h
  exact ⟨_, h1, g, g, h2, h3, h4⟩⟩
end
end DL

/-! The plain side: loops over lists told once, equality of data. -/
namespace DL
open PySem PySem.Spec
open L2 (Key atI ixN)
/-- a loop over a list that stays -/
def forR (tgt : Tgt) (body : MS) : List D → MS
  | [] => fun ρ S => .ok (.nx, ρ) S
  | d :: ds => fun ρ S => match tgt d ρ with
    | none => .stuck
    | some ρ1 => (match body ρ1 S with
      | .ok (.nx, ρ2) S2 => forR tgt body ds ρ2 S2
      | .ok (.ct, ρ2) S2 => forR tgt body ds ρ2 S2
      | .ok (.bk, ρ2) S2 => .ok (.nx, ρ2) S2
      | .ok (.rt t, ρ2) S2 => .ok (.rt t, ρ2) S2
      | .exc e S2 => .exc e S2
      | .stuck => .stuck)
theorem forL_const (tgt : Tgt) (body : MS) : ∀ (ds pre : List D) (ρ : Ev) (S : Sto), forL (constG (pre ++ ds)) tgt body ds.length pre.length ρ S = forR tgt body ds ρ S
  | [], pre, ρ, S => by
    rw [List.length_nil]
    unfold forL forR
    simp [constG]
  | d :: ds, pre, ρ, S => by
    rw [List.length_cons]
    unfold forL forR
    simp only [constG]
    rw [List.getElem?_append_right (Nat.le_refl _), Nat.sub_self, List.getElem?_cons_zero]
    simp only
    cases tgt d ρ with
    | none => rfl
    | some ρ1 =>
      have ih := fun ρ S => forL_const tgt body ds (pre ++ [d]) ρ S
      simp only [List.append_assoc, List.cons_append, List.nil_append, List.length_append, List.length_cons, List.length_nil] at ih
      simp only
      cases body ρ1 S with
      | ok a S2 => obtain ⟨f, ρ2⟩ := a; cases f <;> simp only [ih]
      | exc e S2 => rfl
      | stuck => rfl
theorem forM_const {sm : SM} {tgt : Tgt} {body : MS} {ds : List D} {ρ : Ev} {S S1 : Sto} (h : sm ρ S = .ok (constG ds, ds.length) S1) : forM sm tgt body ρ S = forR tgt body ds ρ S1 := by
  unfold forM
  rw [h]
  exact forL_const tgt body ds [] ρ S1
/-- a loop over an object's list, which the body leaves as it is -/
theorem forL_obj {tgt : Tgt} {body : MS} {n : Nat} {ds : List D} (I : Sto → Prop) (hI : ∀ S, I S → S[n]? = some (.lst ds)) (hb : ∀ d ∈ ds, ∀ ρ ρ1 S f ρ2 S2, I S → tgt d ρ = some ρ1 → body ρ1 S = .ok (f, ρ2) S2 → I S2) : ∀ (rest pre : List D) (ρ : Ev) (S : Sto), ds = pre ++ rest → I S → forL (objG n) tgt body rest.length pre.length ρ S = forR tgt body rest ρ S
  | [], pre, ρ, S, e, i => by
    simp only [List.length_nil]
    unfold forL forR
    simp only [objG, hI S i]
    rw [e, List.append_nil, List.getElem?_eq_none (Nat.le_refl _)]
  | d :: rest, pre, ρ, S, e, i => by
    unfold forR
    simp only [List.length_cons]
    unfold forL
    simp only [objG, hI S i]
    have e0 : ds[pre.length]? = some d := by rw [e, List.getElem?_append_right (Nat.le_refl _), Nat.sub_self, List.getElem?_cons_zero]
    rw [e0]
    simp only
    cases e1 : tgt d ρ with
    | none => rfl
    | some ρ1 =>
      simp only
      have ih := fun ρ S h => forL_obj I hI hb rest (pre ++ [d]) ρ S (by rw [e]; simp) h
      simp only [List.length_append, List.length_cons, List.length_nil] at ih
      cases e2 : body ρ1 S with
      | ok a S2 =>
        obtain ⟨f, ρ2⟩ := a
        have i2 := hb d (by rw [e]; simp) ρ ρ1 S f ρ2 S2 i e1 e2
        cases f <;> simp only [ih _ _ i2]
      | exc e S2 => rfl
      | stuck => rfl
theorem forM_obj {sm : SM} {tgt : Tgt} {body : MS} {ds : List D} {n : Nat} {ρ : Ev} {S S1 : Sto} (I : Sto → Prop) (h : sm ρ S = .ok (objG n, ds.length) S1) (hI : ∀ S, I S → S[n]? = some (.lst ds)) (h1 : I S1) (hb : ∀ d ∈ ds, ∀ ρ ρ1 S f ρ2 S2, I S → tgt d ρ = some ρ1 → body ρ1 S = .ok (f, ρ2) S2 → I S2) : forM sm tgt body ρ S = forR tgt body ds ρ S1 := by
  unfold forM
  rw [h]
  exact forL_obj I hI hb ds [] ρ S1 rfl h1
/-- a comprehension over a list that stays -/
def lcR (tgt : Tgt) (tt elt : M) (ρ : Ev) : List D → List D → Sto → Res T
  | [], acc, S => .ok (.vl acc) S
  | d :: ds, acc, S => match tgt d ρ with
    | none => .stuck
    | some ρ1 => (match tt ρ1 S with
      | .ok (.im (.bl true)) S1 => (match elt ρ1 S1 with
        | .ok (.im x) S2 => if acc.length < line then lcR tgt tt elt ρ ds (acc ++ [x]) S2 else .stuck
        | _ => .stuck)
      | .ok (.im (.bl false)) S1 => lcR tgt tt elt ρ ds acc S1
      | _ => .stuck)
theorem lcL_const (tgt : Tgt) (tt elt : M) (ρ : Ev) : ∀ (ds pre acc : List D) (S : Sto), lcL (constG (pre ++ ds)) tgt tt elt ρ ds.length pre.length acc S = lcR tgt tt elt ρ ds acc S
  | [], pre, acc, S => by
    rw [List.length_nil]
    unfold lcL lcR
    simp [constG]
  | d :: ds, pre, acc, S => by
    rw [List.length_cons]
    unfold lcL lcR
    simp only [constG]
    rw [List.getElem?_append_right (Nat.le_refl _), Nat.sub_self, List.getElem?_cons_zero]
    simp only
    cases tgt d ρ with
    | none => rfl
    | some ρ1 =>
      have ih := fun acc S => lcL_const tgt tt elt ρ ds (pre ++ [d]) acc S
      simp only [List.append_assoc, List.cons_append, List.nil_append, List.length_append, List.length_cons, List.length_nil] at ih
      simp only [ih]
      try rfl
theorem lcM_const {sm : SM} {vs : List Nat} {tgt : Tgt} {tt elt : M} {ds : List D} {ρ : Ev} {S S1 : Sto} (h : sm ρ S = .ok (constG ds, ds.length) S1) : lcM sm vs tgt tt elt ρ S = lcR tgt tt elt (wipeE ρ vs) ds [] S1 := by
  unfold lcM
  rw [h]
  exact lcL_const tgt tt elt (wipeE ρ vs) ds [] [] S1
/-- elements that leave the store -/
theorem lcR_map {tgt : Tgt} {elt : M} {ρ : Ev} {f : D → D} {S : Sto} : ∀ {ds acc : List D}, (∀ d ∈ ds, ∃ ρ1, tgt d ρ = some ρ1 ∧ elt ρ1 S = .ok (.im (f d)) S) → acc.length + ds.length ≤ line → lcR tgt yesM elt ρ ds acc S = .ok (.vl (acc ++ ds.map f)) S
  | [], acc, _, _ => by unfold lcR; simp
  | d :: ds, acc, h, hl => by
    obtain ⟨ρ1, h1, h2⟩ := h d (by simp)
    simp only [List.length_cons] at hl
    unfold lcR
    rw [h1]
    simp only [yesM, h2]
    rw [if_pos (by omega), lcR_map (fun d hd => h d (by simp [hd])) (by simp; omega)]
    simp
/-- and a test -/
theorem lcR_filter {tgt : Tgt} {tt elt : M} {ρ : Ev} {p : D → Bool} {f : D → D} {S : Sto} : ∀ {ds acc : List D}, (∀ d ∈ ds, ∃ ρ1, tgt d ρ = some ρ1 ∧ tt ρ1 S = .ok (.im (.bl (p d))) S ∧ (p d = true → elt ρ1 S = .ok (.im (f d)) S)) → acc.length + ds.length ≤ line → lcR tgt tt elt ρ ds acc S = .ok (.vl (acc ++ (ds.filter p).map f)) S
  | [], acc, _, _ => by unfold lcR; simp
  | d :: ds, acc, h, hl => by
    obtain ⟨ρ1, h1, h2, h3⟩ := h d (by simp)
    simp only [List.length_cons] at hl
    unfold lcR
    rw [h1]
    simp only [h2]
    cases hp : p d with
    | true =>
      simp only [h3 hp]
      rw [if_pos (by omega), lcR_filter (fun d hd => h d (by simp [hd])) (by simp; omega)]
      simp [hp]
    | false =>
      simp only
      rw [lcR_filter (fun d hd => h d (by simp [hd])) (by omega)]
      simp [hp]
/-- a dict's comprehension -/
def dcR (tgt : Tgt) (tt key elt : M) (ρ : Ev) : List D → List (Key × D) → Sto → Res T
  | [], acc, S => .ok (.vd acc) S
  | d :: ds, acc, S => match tgt d ρ with
    | none => .stuck
    | some ρ1 => (match tt ρ1 S with
      | .ok (.im (.bl true)) S1 => (match key ρ1 S1 with
        | .ok y S2 => (match elt ρ1 S2 with
          | .ok (.im x) S3 => (match keyD y with
            | some kk => if acc.length < line then dcR tgt tt key elt ρ ds (putD acc kk x) S3 else .stuck
            | none => .stuck)
          | _ => .stuck)
        | _ => .stuck)
      | .ok (.im (.bl false)) S1 => dcR tgt tt key elt ρ ds acc S1
      | _ => .stuck)
theorem dcL_const (tgt : Tgt) (tt key elt : M) (ρ : Ev) : ∀ (ds pre : List D) (acc : List (Key × D)) (S : Sto), dcL (constG (pre ++ ds)) tgt tt key elt ρ ds.length pre.length acc S = dcR tgt tt key elt ρ ds acc S
  | [], pre, acc, S => by
    rw [List.length_nil]
    unfold dcL dcR
    simp [constG]
  | d :: ds, pre, acc, S => by
    rw [List.length_cons]
    unfold dcL dcR
    simp only [constG]
    rw [List.getElem?_append_right (Nat.le_refl _), Nat.sub_self, List.getElem?_cons_zero]
    simp only
    cases tgt d ρ with
    | none => rfl
    | some ρ1 =>
      have ih := fun acc S => dcL_const tgt tt key elt ρ ds (pre ++ [d]) acc S
      simp only [List.append_assoc, List.cons_append, List.nil_append, List.length_append, List.length_cons, List.length_nil] at ih
      simp only [ih]
      try rfl
theorem dcM_const {sm : SM} {vs : List Nat} {tgt : Tgt} {tt key elt : M} {ds : List D} {ρ : Ev} {S S1 : Sto} (h : sm ρ S = .ok (constG ds, ds.length) S1) : dcM sm vs tgt tt key elt ρ S = dcR tgt tt key elt (wipeE ρ vs) ds [] S1 := by
  unfold dcM
  rw [h]
  exact dcL_const tgt tt key elt (wipeE ρ vs) ds [] [] S1
theorem putD_length {α : Type} (k : Key) (d : α) : ∀ kvs : List (Key × α), (putD kvs k d).length ≤ kvs.length + 1
  | [] => Nat.le_refl _
  | p :: r => by unfold putD; split <;> simp <;> exact putD_length k d r
theorem dcR_map {tgt : Tgt} {key elt : M} {ρ : Ev} {g : D → Key} {y : D → T} {f : D → D} {S : Sto} : ∀ {ds : List D} {acc : List (Key × D)}, (∀ d ∈ ds, ∃ ρ1, tgt d ρ = some ρ1 ∧ key ρ1 S = .ok (y d) S ∧ keyD (y d) = some (g d) ∧ elt ρ1 S = .ok (.im (f d)) S) → acc.length + ds.length ≤ line → dcR tgt yesM key elt ρ ds acc S = .ok (.vd (mergeD (ds.map fun d => (g d, f d)) acc)) S
  | [], acc, _, _ => by unfold dcR; simp [mergeD]
  | d :: ds, acc, h, hl => by
    obtain ⟨ρ1, h1, h2, h3, h4⟩ := h d (by simp)
    simp only [List.length_cons] at hl
    unfold dcR
    rw [h1]
    simp only [yesM, h2, h3, h4]
    have := putD_length (g d) (f d) acc
    rw [if_pos (by omega), dcR_map (fun d hd => h d (by simp [hd])) (by omega)]
    simp [mergeD]
theorem rangeD_len (lo : Int) (n : Nat) : (rangeD lo n).length = n := by simp [rangeD]
theorem range1S_ok {m : M} {ρ : Ev} {S S1 : Sto} {j : Int} (h : m ρ S = .ok (.im (.int j)) S1) (hj : 0 ≤ j ∧ j < 1000000) : range1S m ρ S = .ok (constG (rangeD 0 j.toNat), (rangeD 0 j.toNat).length) S1 := by
  unfold range1S
  rw [h, rangeD_len]
  exact if_pos ⟨by omega, by omega⟩
/-! ### dicts -/
theorem getK_put {α : Type} (k k' : Key) (d : α) : ∀ kvs : List (Key × α), getK (putD kvs k d) k' = if k = k' then some d else getK kvs k'
  | [] => by simp [putD, getK]
  | p :: r => by
    unfold putD
    split
    · rename_i h
      subst h
      unfold getK
      split <;> simp_all
    · rename_i h
      unfold getK
      rw [getK_put k k' d r]
      split
      · rename_i h2
        subst h2
        rw [if_neg (fun h3 => h h3.symm)]
      · rfl
theorem getK_drop {α : Type} (k k' : Key) : ∀ kvs : List (Key × α), getK (dropD kvs k) k' = if k = k' then none else getK kvs k'
  | [] => by simp [dropD, getK]
  | p :: r => by
    have ih := getK_drop k k' r
    unfold dropD at ih ⊢
    rw [List.filter_cons]
    split
    · rename_i h
      have h : p.1 ≠ k := by simpa using h
      unfold getK
      rw [ih]
      split
      · rename_i h2
        subst h2
        rw [if_neg (fun h3 => h h3.symm)]
      · rfl
    · rename_i h
      have h : p.1 = k := by simpa using h
      rw [ih]
      conv => rhs; unfold getK
      rw [h]
      split <;> rfl
theorem keys_put {α : Type} (k : Key) (d : α) : ∀ kvs : List (Key × α), ((k ∈ kvs.map (·.1) ∧ (putD kvs k d).map (·.1) = kvs.map (·.1)) ∨ (k ∉ kvs.map (·.1) ∧ (putD kvs k d).map (·.1) = kvs.map (·.1) ++ [k]))
  | [] => .inr (by simp [putD])
  | p :: r => by
    unfold putD
    split
    · rename_i h
      exact .inl ⟨by simp [h], by simp⟩
    · rename_i h
      simp only [List.map_cons, List.mem_cons, not_or]
      rcases keys_put k d r with ⟨h1, h2⟩ | ⟨h1, h2⟩
      · exact .inl ⟨.inr h1, by rw [h2]⟩
      · exact .inr ⟨⟨fun e => h e.symm, h1⟩, by rw [h2]; rfl⟩
theorem keys_drop {α : Type} (k : Key) (kvs : List (Key × α)) : (dropD kvs k).map (·.1) = (kvs.map (·.1)).filter fun x => decide (x ≠ k) := by
  unfold dropD
  rw [List.filter_map]
  rfl
theorem getK_some {α : Type} {k : Key} : ∀ {kvs : List (Key × α)}, (getK kvs k).isSome = true ↔ k ∈ kvs.map (·.1)
  | [] => by simp [getK]
  | p :: r => by
    unfold getK
    split
    · rename_i h; simp [h]
    · rename_i h
      rw [getK_some (kvs := r)]
      simp only [List.map_cons, List.mem_cons]
      exact ⟨fun a => .inr a, fun a => a.resolve_left fun e => h e.symm⟩
theorem putD_app {α : Type} {k : Key} {d : α} : ∀ {kvs : List (Key × α)}, k ∉ kvs.map (·.1) → putD kvs k d = kvs ++ [(k, d)]
  | [], _ => rfl
  | p :: r, h => by
    simp only [List.map_cons, List.mem_cons, not_or] at h
    unfold putD
    rw [if_neg (fun e => h.1 e.symm), putD_app h.2]
    rfl
theorem mergeD_new {α : Type} [Inhabited α] : ∀ {more kvs : List (Key × D)}, (more.map (·.1)).Nodup → (∀ k ∈ more.map (·.1), k ∉ kvs.map (·.1)) → mergeD more kvs = kvs ++ more
  | [], kvs, _, _ => by simp [mergeD]
  | p :: r, kvs, h, h2 => by
    simp only [List.map_cons, List.nodup_cons] at h
    have e : mergeD (p :: r) kvs = mergeD r (putD kvs p.1 p.2) := rfl
    rw [e, putD_app (h2 _ (by simp)), mergeD_new (α := α) h.2]
    · simp
    · intro k hk hk2
      simp only [List.map_append, List.mem_append, List.map_cons, List.map_nil, List.mem_singleton] at hk2
      rcases hk2 with hk2 | hk2
      · exact h2 k (by simp only [List.map_cons, List.mem_cons]; exact .inr hk) hk2
      · exact h.1 (hk2 ▸ hk)
/-! ### equality of plain data -/
/-- plain data of a depth, no objects -/
def plD : Nat → D → Bool
  | _, .non => true
  | _, .bl _ => true
  | _, .int _ => true
  | _, .str x => PyData.strOk x
  | n + 1, .tup ds => ds.all (plD n)
  | n + 1, .kl ds => ds.all (plD n)
  | _, _ => false
theorem mapO_all {f : D → Option PyData} {n : Nat} : ∀ {ds : List D}, (∀ d ∈ ds, ∃ p, f d = some p ∧ p.canLay0 = true ∧ p.depth ≤ n) → ∃ ps, mapO f ds = some ps ∧ PyData.canLayAll0 ps = true ∧ PyData.depthAll ps ≤ n
  | [], _ => ⟨[], rfl, by simp [PyData.canLayAll0], by simp [PyData.depthAll]⟩
  | d :: ds, h => by
    obtain ⟨p, h1, h2, h3⟩ := h d (by simp)
    obtain ⟨ps, e1, e2, e3⟩ := mapO_all (ds := ds) (fun d hd => h d (by simp [hd]))
    refine ⟨p :: ps, by unfold mapO; rw [h1, e1], by simp [PyData.canLayAll0, h2, e2], ?_⟩
    simp only [PyData.depthAll]
    omega
theorem toPy_plain (S : Sto) : ∀ (n k : Nat) (d : D), plD n d = true → n ≤ k → ∃ p, toPy S k d = some p ∧ p.canLay0 = true ∧ p.depth ≤ n
  | n, k, .non, _, _ => ⟨.none, by cases k <;> rfl, by simp [PyData.canLay0], by simp [PyData.depth]⟩
  | n, k, .bl b, _, _ => ⟨.bool b, by cases k <;> rfl, by simp [PyData.canLay0], by simp [PyData.depth]⟩
  | n, k, .int b, _, _ => ⟨.int b, by cases k <;> rfl, by simp [PyData.canLay0], by simp [PyData.depth]⟩
  | n, k, .str b, h, _ => ⟨.str b, by cases k <;> rfl, by
      have h : PyData.strOk b = true := by cases n <;> exact h
      simp [PyData.canLay0, h], by simp [PyData.depth]⟩
  | 0, k, .tup ds, h, _ => by cases h
  | n + 1, 0, .tup ds, h, hk => by omega
  | n + 1, k + 1, .tup ds, h, hk => by
    have h : ds.all (plD n) = true := h
    obtain ⟨ps, e1, e2, e3⟩ := mapO_all (f := toPy S k) (n := n) (ds := ds) fun d hd => toPy_plain S n k d (List.all_eq_true.mp h d hd) (by omega)
    refine ⟨.tuple ps, ?_, by simp [PyData.canLay0, e2], by simp [PyData.depth]; omega⟩
    show (mapO (toPy S k) ds).map _ = _
    rw [e1]; rfl
  | 0, k, .kl ds, h, _ => by cases h
  | n + 1, 0, .kl ds, h, hk => by omega
  | n + 1, k + 1, .kl ds, h, hk => by
    have h : ds.all (plD n) = true := h
    obtain ⟨ps, e1, e2, e3⟩ := mapO_all (f := toPy S k) (n := n) (ds := ds) fun d hd => toPy_plain S n k d (List.all_eq_true.mp h d hd) (by omega)
    refine ⟨.list ps, ?_, by simp [PyData.canLay0, e2], by simp [PyData.depth]; omega⟩
    show (mapO (toPy S k) ds).map _ = _
    rw [e1]; rfl
  | n, k, .ref _, h, _ => by cases n <;> cases h
  | n, k, .fn _, h, _ => by cases n <;> cases h
  | n, k, .kd _ _, h, _ => by cases n <;> cases h
theorem eq_self {S : Sto} {d : D} {n : Nat} (h : plD n d = true) (hn : n ≤ 60) : eqT S (.im d) (.im d) = some true := by
  obtain ⟨p, e1, e2, e3⟩ := toPy_plain S n 200 d h (by omega)
  show eqvO (toPy S 200 d) (toPy S 200 d) = _
  rw [e1]
  unfold eqvO
  simp only
  rw [if_pos (by simp only [Bool.and_eq_true, decide_eq_true_eq]; exact ⟨e2, e2, by omega⟩), PySem.SeqAt.eqv_refl p e2]
end DL

/-! The plain side: each combinator as it is applied. -/
namespace DL
open PySem PySem.Spec
open L2 (Key atI ixN)
section
variable {m n o k : M} {a b : MS} {ρ : Ev} {S : Sto} {i : Nat} {t u : T}
theorem ap_bind {α β : Type} {m : Ev → Sto → Res α} {k : α → Ev → Sto → Res β} : bind m k ρ S = (match m ρ S with
  | .ok t S' => k t ρ S'
  | .exc e S' => .exc e S'
  | .stuck => .stuck) := id rfl
theorem ap_bindS {k : T → MS} : bindS m k ρ S = (match m ρ S with
  | .ok t S' => k t ρ S'
  | .exc e S' => .exc e S'
  | .stuck => .stuck) := id rfl
theorem ap_seqM : seqM a b ρ S = (match a ρ S with
  | .ok (.nx, ρ') S' => b ρ' S'
  | r => r) := id rfl
theorem ap_skipM : skipM ρ S = .ok (.nx, ρ) S := id rfl
theorem ap_un {f : O1} : un m f ρ S = bind m (fun t _ S => f t S) ρ S := id rfl
theorem ap_bin {f : O2} : bin m n f ρ S = bind m (fun t => bind n fun u _ S => f t u S) ρ S := id rfl
theorem ap_slot {b : Bool} : slot b i ρ S = (match ρ[i]? with
  | some (some t) => if t.own && !b then .stuck else .ok t S
  | _ => .stuck) := id rfl
theorem ap_cst {d : D} : cst d ρ S = .ok (.im d) S := id rfl
theorem ap_andM : andM m n ρ S = bind m (fun t => match t with
  | .im (.bl true) => n
  | .im (.bl false) => fun _ S => .ok (.im (.bl false)) S
  | _ => fun _ _ => .stuck) ρ S := id rfl
theorem ap_orM : orM m n ρ S = bind m (fun t => match t with
  | .im (.bl false) => n
  | .im (.bl true) => fun _ S => .ok (.im (.bl true)) S
  | _ => fun _ _ => .stuck) ρ S := id rfl
theorem ap_notM : notM m ρ S = bind m (fun t => match t with
  | .im (.bl k) => fun _ S => .ok (.im (.bl !k)) S
  | _ => fun _ _ => .stuck) ρ S := id rfl
theorem ap_iteM : iteM m n o ρ S = bind m (fun t => match t with
  | .im (.bl true) => n
  | .im (.bl false) => o
  | _ => fun _ _ => .stuck) ρ S := id rfl
theorem ap_argsN : argsM [] ρ S = .ok [] S := id rfl
theorem ap_argsC {ms : List M} : argsM (m :: ms) ρ S = bind m (fun t => bind (argsM ms) fun ts _ S => .ok (t :: ts) S) ρ S := id rfl
theorem ap_tupM {m : MA} : tupM m ρ S = bind m (fun ts _ S => if ts.length ≤ line then .ok (.im (.tup (escs ts S).1)) (escs ts S).2 else .stuck) ρ S := id rfl
theorem ap_lstM {m : MA} : lstM m ρ S = bind m (fun ts _ S => if ts.length ≤ line then .ok (.vl (escs ts S).1) (escs ts S).2 else .stuck) ρ S := id rfl
theorem ap_escM : escM m ρ S = bind m (fun t _ S => .ok (.im (esc t S).1) (esc t S).2) ρ S := id rfl
theorem ap_appA {m : MA} {f : OA} : appA m f ρ S = bind m (fun ts _ S => f ts S) ρ S := id rfl
theorem ap_callM {n : Nat} {F : FS} {m : MA} : callM n F m ρ S = bind m (fun ts _ S => if ts.length = n then F ts S else .stuck) ρ S := id rfl
theorem ap_exprM : exprM m ρ S = bindS m (fun _ ρ S => .ok (.nx, ρ) S) ρ S := id rfl
theorem ap_retM : retM m ρ S = bindS m (fun t ρ S => .ok (.rt t, ρ) S) ρ S := id rfl
theorem ap_retN : retN ρ S = .ok (.rt (.im .non), ρ) S := id rfl
theorem ap_ifM : ifM m a b ρ S = bindS m (fun t => match t with
  | .im (.bl true) => a
  | .im (.bl false) => b
  | _ => fun _ _ => .stuck) ρ S := id rfl
theorem ap_setM : setM i m ρ S = bindS m (fun t ρ S => .ok (.nx, ρ.set i (some t)) S) ρ S := id rfl
theorem ap_asgM {tgt : Tgt} : asgM tgt m ρ S = bindS m (fun t ρ S => match t with
  | .im d => (match tgt d ρ with
    | some ρ' => .ok (.nx, ρ') S
    | none => .stuck)
  | _ => .stuck) ρ S := id rfl
theorem ap_parM {j : Nat} {m : MA} : parM i j m ρ S = (match m ρ S with
  | .ok [t, u] S1 => .ok (.nx, (ρ.set i (some t)).set j (some u)) S1
  | .ok _ _ => .stuck
  | .exc e S1 => .exc e S1
  | .stuck => .stuck) := id rfl
theorem ap_par3M {j l : Nat} {m : MA} : par3M i j l m ρ S = (match m ρ S with
  | .ok [t, u, w] S1 => .ok (.nx, ((ρ.set i (some t)).set j (some u)).set l (some w)) S1
  | .ok _ _ => .stuck
  | .exc e S1 => .exc e S1
  | .stuck => .stuck) := id rfl
theorem ap_putM : putM m n k ρ S = bindS m (fun t => bindS n fun u => bindS k fun k ρ S => match t with
  | .im d => (match u with
    | .im (.ref n) => (match S[n]? with
      | some o => (match putO o k d with
        | some o' => .ok (.nx, ρ) (S.set n o')
        | none => .stuck)
      | none => .stuck)
    | _ => .stuck)
  | _ => .stuck) ρ S := id rfl
theorem ap_putOwnM : putOwnM i m k ρ S = bindS m (fun t ρ S => match ρ[i]? with
  | some (some u) => bindS k (fun k ρ S => match t with
    | .im d => (match putT u k d with
      | some u' => .ok (.nx, ρ.set i (some u')) S
      | none => .stuck)
    | _ => .stuck) ρ S
  | _ => .stuck) ρ S := id rfl
theorem ap_putFldM {c f : Str} : putFldM c f m n ρ S = bindS m (fun t => bindS n fun u ρ S => match t with
  | .im d => (match u with
    | .im (.ref n) => (match S[n]? with
      | some (.ins c' fs) => if c' = c ∧ fs.length < 1000 then .ok (.nx, ρ) (S.set n (.ins c' (putFD f d fs))) else .stuck
      | _ => .stuck)
    | _ => .stuck)
  | _ => .stuck) ρ S := id rfl
theorem ap_methM {c mt : Str} {n : Nat} {F : FS} {ma : MA} : methM c mt n F m ma ρ S = bind m (fun u ρ S => if isIns c mt S u = true then bind ma (fun ts _ S => if ts.length = n then F (u :: ts) S else .stuck) ρ S else .stuck) ρ S := id rfl
theorem ap_makeM {c : Str} {n : Nat} {F : FS} {ma : MA} : makeM c n F ma ρ S = bind ma (fun ts _ S => if ts.length = n then (match F (.im (.ref S.length) :: ts) (S ++ [.ins c []]) with
  | .ok (.im .non) S' => .ok (.im (.ref S.length)) S'
  | .ok _ _ => .stuck
  | .exc e S' => .exc e S'
  | .stuck => .stuck) else .stuck) ρ S := id rfl
theorem ap_lmM {f : T → OA} {ma : MA} : lmM f m ma ρ S = bind m (fun u ρ S => if isLst S u = true then bind ma (fun ts _ S => f u ts S) ρ S else .stuck) ρ S := id rfl
theorem ap_appendOwnM : appendOwnM i m ρ S = (match ρ[i]? with
  | some (some (.vl ds)) => bindS m (fun t ρ S => match t with
    | .im d => if ds.length < line then .ok (.nx, ρ.set i (some (.vl (ds ++ [d])))) S else .stuck
    | _ => .stuck) ρ S
  | _ => .stuck) := id rfl
theorem ap_dpopM : dpopM m n ρ S = bind m (fun u ρ S => if isDic S u = true then bind n (fun k ρ S => match u with
  | .im (.ref n) => (match S[n]? with
    | some (.dic kvs) => (match keyD k with
      | some key => (match getK kvs key with
        | some d => .ok (.im d) (S.set n (.dic (dropD kvs key)))
        | none => .stuck)
      | none => .stuck)
    | _ => .stuck)
  | _ => .stuck) ρ S else .stuck) ρ S := id rfl
theorem ap_dpop2M : dpop2M m n o ρ S = bind m (fun u ρ S => if isDic S u = true then bind n (fun k => bind o fun x ρ S => match u with
  | .im (.ref n) => (match x with
    | .im dx => (match S[n]? with
      | some (.dic kvs) => (match keyD k with
        | some key => (match getK kvs key with
          | some d => .ok (.im d) (S.set n (.dic (dropD kvs key)))
          | none => .ok (.im dx) S)
        | none => .stuck)
      | _ => .stuck)
    | _ => .stuck)
  | _ => .stuck) ρ S else .stuck) ρ S := id rfl
theorem ap_seqS : seqS m ρ S = (match m ρ S with
  | .ok t S1 => (match walkOf S1 t with
    | some gk => .ok gk S1
    | none => .stuck)
  | .exc e S1 => .exc e S1
  | .stuck => .stuck) := id rfl
theorem ap_dictS : dictS m ρ S = (match m ρ S with
  | .ok (.im (.ref n)) S1 => (match S1[n]? with
    | some (.fdic kvs) => .ok (constG (keysD kvs), kvs.length) S1
    | _ => .stuck)
  | .ok _ _ => .stuck
  | .exc e S1 => .exc e S1
  | .stuck => .stuck) := id rfl
theorem ap_lockM : lockM i m ρ S = (match ρ[i]? with
  | some (some (.im (.ref n))) => (match S[n]? with
    | some (.dic kvs) => (match m ρ (S.set n (.fdic kvs)) with
      | .ok t S1 => (match S1[n]? with
        | some (.fdic kvs1) => .ok t (S1.set n (.dic kvs1))
        | _ => .stuck)
      | _ => .stuck)
    | _ => .stuck)
  | _ => .stuck) := id rfl
theorem ap_lockS : lockS i a ρ S = (match ρ[i]? with
  | some (some (.im (.ref n))) => (match S[n]? with
    | some (.dic kvs) => (match a ρ (S.set n (.fdic kvs)) with
      | .ok t S1 => (match S1[n]? with
        | some (.fdic kvs1) => .ok t (S1.set n (.dic kvs1))
        | _ => .stuck)
      | _ => .stuck)
    | _ => .stuck)
  | _ => .stuck) := id rfl
theorem ap_chainM {f g : O2} : chainM m n k f g ρ S = bind m (fun t => bind n fun u => bind (fun _ S => f t u S) fun z => match z with
  | .im (.bl true) => bind k fun w _ S => g u w S
  | .im (.bl false) => fun _ S => .ok (.im (.bl false)) S
  | _ => fun _ _ => .stuck) ρ S := id rfl
theorem ap_isiM {ty : String} : isiM ty m ρ S = bind m (fun t _ S => match tyN S t with
  | some n => .ok (.im (.bl (tyLe n ty))) S
  | none => .stuck) ρ S := id rfl
theorem ap_sliceM {lo hi : Bd} : sliceM m lo hi ρ S = bind m (fun t => bdM lo fun l => bdM hi fun h => slO t l h) ρ S := id rfl
theorem ap_bdN {k : Option Int → M} : bdM .no k ρ S = k none ρ S := id rfl
theorem ap_bdA {k : Option Int → M} : bdM (.at_ m) k ρ S = bind m (fun t => match t with
    | .im (.int i) => k (some i)
    | _ => fun _ _ => .stuck) ρ S := id rfl
theorem ap_lam {sel : Str → Option Str} {ret : Str} : lamErrM sel ret m ρ S = (match m ρ S with
  | .ok _ S' => .ok (.im (.str ret)) S'
  | .exc e S' => (match sel e.c with
    | some r => .ok (.im (.str r)) S'
    | none => .stuck)
  | .stuck => .stuck) := id rfl
theorem ap_runF {N : Nat} {ts : List T} : runF N a ts S = (match a (startE N ts) S with
  | .ok (.nx, _) S' => .ok (.im .non) S'
  | .ok (.rt t, _) S' => .ok t S'
  | .ok _ _ => .stuck
  | .exc e S' => .exc e S'
  | .stuck => .stuck) := id rfl
theorem ap_while {k : Nat} : whileM m a (k + 1) ρ S = (match m ρ S with
    | .ok (.im (.bl true)) S1 => (match a ρ S1 with
      | .ok (.nx, ρ2) S2 => whileM m a k ρ2 S2
      | .ok (.ct, ρ2) S2 => whileM m a k ρ2 S2
      | .ok (.bk, ρ2) S2 => .ok (.nx, ρ2) S2
      | .ok (.rt t, ρ2) S2 => .ok (.rt t, ρ2) S2
      | .exc e S2 => .exc e S2
      | .stuck => .stuck)
    | .ok (.im (.bl false)) S1 => .ok (.nx, ρ) S1
    | .ok _ _ => .stuck
    | .exc e S1 => .exc e S1
    | .stuck => .stuck) := id rfl
/-! ### the store -/
theorem get_same {o o' : MO} {n : Nat} (h : S[n]? = some o) : (S.set n o')[n]? = some o' := by
  have := (List.getElem?_eq_some_iff.mp h).1
  simp [this]
theorem get_ne {o : MO} {n k : Nat} (h : n ≠ k) : (S.set n o)[k]? = S[k]? := by simp [List.getElem?_set, h]
theorem get_app {X : Sto} {o : MO} {n : Nat} (h : S[n]? = some o) : (S ++ X)[n]? = some o := by
  have := (List.getElem?_eq_some_iff.mp h).1
  rw [List.getElem?_append_left this, h]
theorem get_end {X : Sto} {o : MO} : (S ++ o :: X)[S.length]? = some o := by simp
theorem get_lt {o : MO} {n : Nat} (h : S[n]? = some o) : n < S.length := (List.getElem?_eq_some_iff.mp h).1
end
/-! ### items -/
theorem atI_nat {α : Type} (xs : List α) (i : Nat) : atI xs (i : Int) = xs[i]? := by
  unfold atI ixN
  rw [if_pos (by omega)]
  by_cases h : (i : Int) < xs.length
  · rw [if_pos h]; simp
  · rw [if_neg h]; simp; omega
theorem ixO_lst {S : Sto} {n : Nat} {ds : List D} {i : Nat} {d : D} (h : S[n]? = some (.lst ds)) (hd : ds[i]? = some d) : ixO (.im (.ref n)) (.im (.int (i : Nat))) S = .ok (.im d) S := by
  unfold ixO seqOf lstOf lstW
  simp only [h, atI_nat, hd]
theorem ixO_tup {S : Sto} {ds : List D} {i : Nat} {d : D} (hd : ds[i]? = some d) : ixO (.im (.tup ds)) (.im (.int (i : Nat))) S = .ok (.im d) S := by
  unfold ixO seqOf
  simp only [atI_nat, hd]
theorem ixO_vl {S : Sto} {ds : List D} {i : Nat} {d : D} (hd : ds[i]? = some d) : ixO (.vl ds) (.im (.int (i : Nat))) S = .ok (.im d) S := by
  unfold ixO seqOf lstOf lstW
  simp only [atI_nat, hd]
theorem ixO_dic {S : Sto} {n : Nat} {kvs : List (Key × D)} {k : T} {key : Key} {d : D} (h : S[n]? = some (.dic kvs) ∨ S[n]? = some (.fdic kvs)) (hk : keyD k = some key) (hd : getK kvs key = some d) : ixO (.im (.ref n)) k S = .ok (.im d) S := by
  unfold ixO seqOf lstOf lstW dicOf
  rcases h with h | h <;> simp only [h, hk, hd]
theorem ixO_vd {S : Sto} {kvs : List (Key × D)} {k : T} {key : Key} {d : D} (hk : keyD k = some key) (hd : getK kvs key = some d) : ixO (.vd kvs) k S = .ok (.im d) S := by
  unfold ixO seqOf lstOf lstW dicOf
  simp only [hk, hd]
theorem putO_0 {a b d : D} : putO (.lst [a, b]) (.im (.int 0)) d = some (.lst [d, b]) := by
  simp [putO, ixN]
theorem putO_1 {a b d : D} : putO (.lst [a, b]) (.im (.int 1)) d = some (.lst [a, d]) := by
  simp [putO, ixN]

theorem atI_0 {α : Type} {a : α} {r : List α} : atI (a :: r) 0 = some a := atI_nat _ 0
theorem atI_1 {α : Type} {a b : α} {r : List α} : atI (a :: b :: r) 1 = some b := atI_nat _ 1
theorem atI_2 {α : Type} {a b c : α} {r : List α} : atI (a :: b :: c :: r) 2 = some c := atI_nat _ 2
theorem atI_3 {α : Type} {a b c d : α} {r : List α} : atI (a :: b :: c :: d :: r) 3 = some d := atI_nat _ 3
theorem ix_ref {S : Sto} {n : Nat} {y : T} : ixO (.im (.ref n)) y S = (match seqOf S (.im (.ref n)) with
    | some ds => (match y with
      | .im (.int i) => (match atI ds i with
        | some d => .ok (.im d) S
        | none => .stuck)
      | _ => .stuck)
    | none => (match dicOf S (.im (.ref n)) with
      | some kvs => (match keyD y with
        | some k => (match getK kvs k with
          | some d => .ok (.im d) S
          | none => .stuck)
        | none => .stuck)
      | none => .stuck)) := id rfl
theorem ix_tup {S : Sto} {ds : List D} {i : Int} : ixO (.im (.tup ds)) (.im (.int i)) S = (match atI ds i with
        | some d => .ok (.im d) S
        | none => .stuck) := id rfl
theorem ix_vl {S : Sto} {ds : List D} {i : Int} : ixO (.vl ds) (.im (.int i)) S = (match atI ds i with
        | some d => .ok (.im d) S
        | none => .stuck) := id rfl
theorem seqOf_ref {S : Sto} {n : Nat} : seqOf S (.im (.ref n)) = (match S[n]? with
    | some (.lst ds) => some ds
    | _ => none) := id rfl
theorem lstOf_ref {S : Sto} {n : Nat} : lstOf S (.im (.ref n)) = (match S[n]? with
    | some (.lst ds) => some ds
    | _ => none) := id rfl
theorem dicOf_ref {S : Sto} {n : Nat} : dicOf S (.im (.ref n)) = (match S[n]? with
    | some (.dic kvs) => some kvs
    | some (.fdic kvs) => some kvs
    | _ => none) := id rfl
theorem opI_i {c : Int → Int → Bool} {f : Int → Int → Int} {i j : Int} {S : Sto} (h : c i j = true) : DL.opI c f (.im (.int i)) (.im (.int j)) S = .ok (.im (.int (f i j))) S := by
  unfold DL.opI
  simp only [h, if_true]
theorem opI0_i {f : Int → Int → Int} {i j : Int} {S : Sto} : opI0 f (.im (.int i)) (.im (.int j)) S = .ok (.im (.int (f i j))) S := id rfl
theorem cmpI_i {f : Int → Int → Bool} {i j : Int} {S : Sto} : cmpI f (.im (.int i)) (.im (.int j)) S = .ok (.im (.bl (f i j))) S := id rfl
theorem addO_i {i j : Int} {S : Sto} : addO (.im (.int i)) (.im (.int j)) S = .ok (.im (.int (i + j))) S := id rfl
theorem negO_i {i : Int} {S : Sto} : negO (.im (.int i)) S = .ok (.im (.int (-i))) S := id rfl
theorem intF_i {i : Int} {S : Sto} : intF [.im (.int i)] S = .ok (.im (.int i)) S := id rfl
theorem mulC_l {i j : Int} (h : -18446744073709551616 < i ∧ i < 18446744073709551616) : mulC i j = true := by
  unfold mulC; simp [h]
theorem mulC_r {i j : Int} (h : -18446744073709551616 < j ∧ j < 18446744073709551616) : mulC i j = true := by
  unfold mulC; simp [h]
theorem divC_p {i j : Int} (h : 0 < j ∧ j < 1073741824) : divC i j = true := by
  unfold divC; simp [h]
theorem modC_p {i j : Int} (h : 0 < j) : modC i j = true := by
  unfold modC; simp [h]
end DL

/-! Giving words back, in plain Lean. -/
namespace Giv
abbrev Mp := Int → Option Int
def up (m : Mp) (w : Int) (v : Option Int) : Mp := fun x => if x = w then v else m x
/-- words dropped in their order: the broken one, the counts, the row -/
def fb : Mp → List Int → List Int → Option Int × Mp × List Int
  | m, l, [] => (none, m, l)
  | m, l, w :: ws => if w % 4 = 0 then (match m w with
    | none => (some w, m, l)
    | some c => fb (up m w (some (c - 1))) (if c = 1 then l ++ [w] else l) ws) else fb m l ws
inductive Out where
  | broken (w : Int) | freed (fr : List Int) (m : Mp)
def go (fl : Int → List Int) : Nat → Mp → List Int → List Int → Option Out
  | 0, _, _, _ => none
  | _ + 1, m, fr, [] => some (.freed fr m)
  | k + 1, m, fr, p :: q => match fb m (p :: q) (fl p) with
    | (some w, _, _) => some (.broken w)
    | (none, m', l) => go fl k (up m' p none) (fr ++ [p]) l.tail
def drop (fl : Int → List Int) (n : Nat) (m : Mp) (w : Int) : Option Out := match fb m [] [w] with
  | (some w, _, _) => some (.broken w)
  | (none, m', l) => go fl n m' [] l
theorem fb_row : ∀ {ws : List Int} {m : Mp} {l : List Int} {r m' l'}, fb m l ws = (r, m', l') → ∃ e, l' = l ++ e
  | [], m, l, r, m', l', h => by cases h; exact ⟨[], by simp⟩
  | w :: ws, m, l, r, m', l', h => by
    unfold fb at h
    split at h
    · split at h
      · cases h; exact ⟨[], by simp⟩
      · obtain ⟨e, he⟩ := fb_row h
        split at he
        · exact ⟨[w] ++ e, by rw [he, List.append_assoc]⟩
        · exact ⟨e, he⟩
    · exact fb_row h
theorem fb_none : ∀ {ws : List Int} {m : Mp} {l : List Int} {r m' l'}, fb m l ws = (r, m', l') → ∀ p, (m' p).isSome = (m p).isSome
  | [], m, l, r, m', l', h, p => by cases h; rfl
  | w :: ws, m, l, r, m', l', h, p => by
    unfold fb at h
    split at h
    · split at h
      · cases h; rfl
      · rename_i c e
        rw [fb_none h p]
        unfold up
        split
        · rename_i e2; rw [e2, e]; rfl
        · rfl
    · exact fb_none h p
/-- what stands in the row is there, and has no holder -/
def Inv (m : Mp) (l : List Int) : Prop := l.Nodup ∧ ∀ p ∈ l, ∃ c, m p = some c ∧ c ≤ 0
theorem Inv.fb : ∀ {ws : List Int} {m : Mp} {l : List Int} {r m' l'}, Inv m l → fb m l ws = (r, m', l') → Inv m' l'
  | [], m, l, r, m', l', i, h => by cases h; exact i
  | w :: ws, m, l, r, m', l', i, h => by
    unfold Giv.fb at h
    split at h
    · split at h
      · cases h; exact i
      · rename_i c e
        refine Inv.fb ?_ h
        split
        · rename_i hc
          refine ⟨List.nodup_append.mpr ⟨i.1, by simp, fun a ha b hb => ?_⟩, fun p hp => ?_⟩
          · simp only [List.mem_singleton] at hb
            subst hb
            intro e2
            subst e2
            obtain ⟨c', h1, h2⟩ := i.2 a ha
            rw [h1] at e
            cases e
            omega
          · unfold up
            split
            · exact ⟨_, rfl, by omega⟩
            · rename_i hn
              simp only [List.mem_append, List.mem_singleton] at hp
              exact i.2 p (hp.resolve_right hn)
        · refine ⟨i.1, fun p hp => ?_⟩
          obtain ⟨c', h1, h2⟩ := i.2 p hp
          unfold up
          split
          · rename_i e2
            subst e2
            rw [h1] at e
            cases e
            exact ⟨_, rfl, by omega⟩
          · exact ⟨_, h1, h2⟩
    · exact Inv.fb i h
theorem Inv.pop {m : Mp} {p : Int} {l : List Int} (i : Inv m (p :: l)) : Inv (up m p none) l := by
  obtain ⟨h1, h2⟩ := i
  simp only [List.nodup_cons] at h1
  refine ⟨h1.2, fun x hx => ?_⟩
  unfold up
  rw [if_neg (fun e : x = p => h1.1 (e ▸ hx))]
  exact h2 x (by simp [hx])
theorem Inv.step {m m' : Mp} {p : Int} {q l ws : List Int} {r} (i : Inv m (p :: q)) (h : Giv.fb m (p :: q) ws = (r, m', l)) : ∃ q', l = p :: q' ∧ Inv (up m' p none) q' := by
  obtain ⟨e, he⟩ := fb_row h
  refine ⟨q ++ e, by rw [he]; rfl, Inv.pop (p := p) ?_⟩
  have := i.fb h
  rw [he] at this
  exact this
/-- the places there -/
def here (ps : List Int) (m : Mp) : List Int := ps.filter fun p => (m p).isSome
theorem here_pop {ps : List Int} {m : Mp} {p : Int} : here ps (up m p none) = (here ps m).filter fun x => decide (x ≠ p) := by
  unfold here
  rw [List.filter_filter]
  congr 1
  funext x
  unfold up
  split
  · rename_i h; simp [h]
  · rename_i h; simp [h]
theorem here_fb {ps ws : List Int} {m : Mp} {l : List Int} {r m' l'} (h : fb m l ws = (r, m', l')) : here ps m' = here ps m := by
  unfold here
  congr 1
  funext p
  exact fb_none h p
theorem here_len {ps : List Int} {m : Mp} {p : Int} (nd : ps.Nodup) (hp : p ∈ here ps m) : (here ps (up m p none)).length + 1 = (here ps m).length := by
  rw [here_pop]
  have nd2 : (here ps m).Nodup := nd.filter _
  have : (here ps m).filter (fun x => decide (x ≠ p)) = (here ps m).erase p := by
    rw [nd2.erase_eq_filter]
    congr 1
    funext y
    by_cases h : y = p <;> simp [h]
  rw [this, List.length_erase_of_mem hp]
  have := List.length_pos_of_mem hp
  omega
theorem go_some {fl : Int → List Int} {ps : List Int} (nd : ps.Nodup) : ∀ (k : Nat) (m : Mp) (fr l : List Int), Inv m l → (∀ p, (m p).isSome = true → p ∈ ps) → (here ps m).length < k → ∃ o, go fl k m fr l = some o
  | 0, m, fr, l, _, _, h => by omega
  | k + 1, m, fr, [], _, _, _ => ⟨_, rfl⟩
  | k + 1, m, fr, p :: q, i, hm, hk => by
    unfold go
    generalize e : fb m (p :: q) (fl p) = x
    obtain ⟨r, m', l⟩ := x
    cases r with
    | some w => exact ⟨_, rfl⟩
    | none =>
      obtain ⟨q', rfl, i'⟩ := i.step e
      obtain ⟨c, hc, _⟩ := i.2 p (by simp)
      refine go_some nd k _ _ _ i' (fun x hx => ?_) ?_
      · unfold up at hx
        split at hx
        · cases hx
        · rw [fb_none e] at hx; exact hm x hx
      · have hp : p ∈ here ps m' := by
          rw [here_fb e]
          unfold here
          rw [List.mem_filter]
          exact ⟨hm p (by rw [hc]; rfl), by rw [hc]; rfl⟩
        have := here_len nd hp
        rw [here_fb e] at this
        omega
theorem drop_some {fl : Int → List Int} {ps : List Int} (nd : ps.Nodup) {k : Nat} {m : Mp} {w : Int} (hm : ∀ p, (m p).isSome = true → p ∈ ps) (hk : ps.length < k) : ∃ o, drop fl k m w = some o := by
  unfold drop
  generalize e : fb m [] [w] = x
  obtain ⟨r, m', l⟩ := x
  cases r with
  | some w => exact ⟨_, rfl⟩
  | none =>
    have i : Inv m [] := ⟨List.nodup_nil, fun p hp => by cases hp⟩
    refine go_some nd k _ _ _ (i.fb e) (fun p hp => hm p (by rw [← fb_none e]; exact hp)) ?_
    exact Nat.lt_of_le_of_lt (List.length_filter_le _ _) hk
/-! ### the counts are right -/
/-- how often a word is held: by the words told, by the cells there (the hole's aside) -/
def tot (fl : Int → List Int) (ps : List Int) (m : Mp) (hole : Option Int) (ws : List Int) (p : Int) : Nat := ws.count p + (((here ps m).filter fun q => decide (some q ≠ hole)).flatMap fl).count p
structure Ex (fl : Int → List Int) (ps : List Int) (m : Mp) (hole : Option Int) (ws l : List Int) : Prop where
  ex : ∀ p, p % 4 = 0 → match m p with
    | some c => c = (tot fl ps m hole ws p : Int)
    | none => tot fl ps m hole ws p = 0
  row : ∀ p, p ∈ l ↔ m p = some 0
  nd : l.Nodup
  four : ∀ p, (m p).isSome = true → p % 4 = 0 ∧ p ∈ ps
theorem here_up {ps : List Int} {m : Mp} {w c c' : Int} (e : m w = some c) : here ps (up m w (some c')) = here ps m := by
  unfold here
  congr 1
  funext p
  unfold up
  split
  · rename_i h; rw [h, e]; rfl
  · rfl
theorem Ex.fb {fl : Int → List Int} {ps : List Int} {hole : Option Int} {H : List Int} : ∀ {ws : List Int} {m : Mp} {l : List Int}, Ex fl ps m hole (ws ++ H) l → ∃ m' l', fb m l ws = (none, m', l') ∧ Ex fl ps m' hole H l'
  | [], m, l, x => ⟨m, l, rfl, x⟩
  | w :: ws, m, l, x => by
    unfold Giv.fb
    by_cases hw : w % 4 = 0
    · rw [if_pos hw]
      have h := x.ex w hw
      have hp : 0 < tot fl ps m hole (w :: ws ++ H) w := by unfold tot; simp; omega
      cases e : m w with
      | none => rw [e] at h; simp only at h; omega
      | some c =>
        rw [e] at h
        simp only at h ⊢
        have key : ∀ p, tot fl ps (up m w (some (c - 1))) hole (ws ++ H) p = tot fl ps m hole (w :: ws ++ H) p - if p = w then 1 else 0 := fun p => by
          unfold tot
          rw [here_up e]
          by_cases hpw : p = w
          · subst hpw
            rw [if_pos rfl]
            simp
          · rw [if_neg hpw, List.cons_append, List.count_cons_of_ne (fun e => hpw e.symm)]
            omega
        refine Ex.fb ⟨fun p h4 => ?_, fun p => ?_, ?_, fun p hp => ?_⟩
        · have h2 := x.ex p h4
          rw [key p]
          unfold up
          by_cases hpw : p = w
          · subst hpw
            rw [if_pos rfl, if_pos rfl]
            simp only
            omega
          · rw [if_neg hpw, if_neg hpw]
            simpa using h2
        · unfold up
          by_cases hpw : p = w
          · subst hpw
            rw [if_pos rfl]
            have hr := x.row p
            rw [e] at hr
            split
            · rename_i h1
              simp [h1]
            · rename_i h1
              rw [hr]
              constructor
              · intro h3; cases h3; omega
              · intro h3
                have : c - 1 = 0 := Option.some.inj h3
                omega
          · rw [if_neg hpw, ← x.row p]
            split
            · simp [hpw]
            · rfl
        · split
          · rename_i h1
            refine List.nodup_append.mpr ⟨x.nd, by simp, fun a ha b hb => ?_⟩
            simp only [List.mem_singleton] at hb
            subst hb
            intro e2
            subst e2
            have := (x.row a).mp ha
            rw [e] at this
            cases this
            omega
          · exact x.nd
        · unfold up at hp
          split at hp
          · rename_i h1; subst h1; exact x.four p (by rw [e]; rfl)
          · exact x.four p hp
    · rw [if_neg hw]
      refine Ex.fb ⟨fun p h4 => ?_, x.row, x.nd, x.four⟩
      have h2 := x.ex p h4
      have hpw : w ≠ p := fun e => hw (e ▸ h4)
      have key : tot fl ps m hole (w :: ws ++ H) p = tot fl ps m hole (ws ++ H) p := by
        unfold tot
        rw [List.cons_append, List.count_cons_of_ne hpw]
      rw [key] at h2
      exact h2
/-- a place's own fields come to the words -/
theorem tot_hole {fl : Int → List Int} {ps : List Int} (nd : ps.Nodup) {m : Mp} {p : Int} (hp : p ∈ here ps m) (H : List Int) (x : Int) : tot fl ps m (some p) (fl p ++ H) x = tot fl ps m none H x := by
  unfold tot
  have nd2 : (here ps m).Nodup := nd.filter _
  have e1 : (here ps m).filter (fun q => decide (some q ≠ some p)) = (here ps m).erase p := by
    rw [nd2.erase_eq_filter]
    congr 1
    funext q
    by_cases h : q = p <;> simp [h]
  have e2 : (here ps m).filter (fun q => decide (some q ≠ (none : Option Int))) = here ps m := List.filter_eq_self.mpr (by simp)
  rw [e1, e2]
  have pm : List.Perm (here ps m) (p :: (here ps m).erase p) := List.perm_cons_erase hp
  have := (pm.flatMap_right fl).count_eq x
  rw [this, List.flatMap_cons, List.count_append, List.count_append]
  omega
theorem go_ex {fl : Int → List Int} {ps : List Int} (nd : ps.Nodup) {H : List Int} : ∀ (k : Nat) (m : Mp) (fr l : List Int), Ex fl ps m none H l → (fr ++ here ps m).Perm (ps' : List Int) → (here ps m).length < k → ∃ fr' m', go fl k m fr l = some (.freed fr' m') ∧ Ex fl ps m' none H [] ∧ (fr' ++ here ps m').Perm ps'
  | 0, m, fr, l, _, _, h => by omega
  | k + 1, m, fr, [], x, pm, _ => ⟨fr, m, rfl, x, pm⟩
  | k + 1, m, fr, p :: q, x, pm, hk => by
    have hp0 : m p = some 0 := (x.row p).mp (by simp)
    have hp : p ∈ here ps m := by
      unfold here
      rw [List.mem_filter]
      exact ⟨(x.four p (by rw [hp0]; rfl)).2, by rw [hp0]; rfl⟩
    have x1 : Ex fl ps m (some p) (fl p ++ H) (p :: q) := ⟨fun y hy => by rw [tot_hole nd hp]; exact x.ex y hy, x.row, x.nd, x.four⟩
    obtain ⟨m1, l1, e, x2⟩ := Ex.fb x1
    unfold go
    rw [e]
    simp only
    obtain ⟨e1, he⟩ := fb_row e
    subst he
    have hh : here ps (up m1 p none) = (here ps m1).filter fun q => decide (some q ≠ some p) := by
      rw [here_pop]
      congr 1
      funext q
      by_cases h : q = p <;> simp [h]
    have ht : ∀ y, tot fl ps (up m1 p none) none H y = tot fl ps m1 (some p) H y := fun y => by
      unfold tot
      rw [hh, List.filter_eq_self.mpr (by simp)]
    have hp1 : m1 p = some 0 := (x2.row p).mp (by simp)
    have nd1 := x2.nd
    rw [List.cons_append, List.nodup_cons] at nd1
    have hp2 : p ∈ here ps m1 := by rw [here_fb e]; exact hp
    have hl := here_len nd hp2
    rw [here_fb e] at hl
    refine go_ex nd k _ _ _ ⟨fun y hy => ?_, fun y => ?_, nd1.2, fun y hy => ?_⟩ ?_ (by omega)
    · rw [ht]
      have h2 := x2.ex y hy
      unfold up
      by_cases hyp : y = p
      · subst hyp
        rw [if_pos rfl]
        rw [hp1] at h2
        simp only at h2 ⊢
        omega
      · rw [if_neg hyp]
        exact h2
    · unfold up
      by_cases hyp : y = p
      · subst hyp
        rw [if_pos rfl]
        exact ⟨fun h => absurd h nd1.1, fun h => by cases h⟩
      · rw [if_neg hyp, ← x2.row y]
        simp [hyp]
    · unfold up at hy
      split at hy
      · cases hy
      · exact x2.four y hy
    · refine List.Perm.trans ?_ pm
      rw [here_pop, here_fb e]
      have nd2 : (here ps m).Nodup := nd.filter _
      have : (here ps m).filter (fun x => decide (x ≠ p)) = (here ps m).erase p := by
        rw [nd2.erase_eq_filter]
        congr 1
        funext y
        by_cases h : y = p <;> simp [h]
      rw [this, List.append_assoc]
      exact List.Perm.append_left fr (List.perm_cons_erase hp).symm
theorem drop_ex {fl : Int → List Int} {ps ps' : List Int} (nd : ps.Nodup) {H : List Int} {k : Nat} {m : Mp} {w : Int} (x : Ex fl ps m none (w :: H) []) (fr0 : List Int) (pm : (fr0 ++ here ps m).Perm ps') (hk : ps.length < k) :
    ∃ fr m', drop fl k m w = some (.freed fr m') ∧ Ex fl ps m' none H [] ∧ (fr0 ++ fr ++ here ps m').Perm ps' := by
  obtain ⟨m1, l1, e, x1⟩ := Ex.fb (ws := [w]) x
  unfold drop
  rw [e]
  simp only
  have hl : (here ps m1).length < k := Nat.lt_of_le_of_lt (List.length_filter_le _ _) hk
  obtain ⟨fr, m2, e2, x2, p2⟩ := go_ex nd (ps' := here ps m1) k m1 [] l1 x1 (by simp) hl
  refine ⟨fr, m2, e2, x2, ?_⟩
  rw [here_fb e] at p2
  rw [List.append_assoc]
  exact (p2.append_left fr0).trans pm
/-- all given back: none left, where cells hold elder ones alone -/
theorem none_left {fl : Int → List Int} {ps : List Int} {m : Mp} (x : Ex fl ps m none [] []) (dag : ∀ a p b, ps = a ++ p :: b → ∀ w ∈ fl p, w % 4 = 0 → w ∈ a) (nd : ps.Nodup) : ∀ p, m p = none := by
  have main : ∀ (n : Nat) a b, a.length = n → ps = a ++ b → (∀ p ∈ b, m p = none) → ∀ p ∈ ps, m p = none := by
    intro n
    induction n with
    | zero => intro a b hl e h p hp; rw [List.eq_nil_of_length_eq_zero hl] at e; rw [e] at hp; exact h p hp
    | succ n ih =>
      intro a b hl e h
      rcases List.eq_nil_or_concat a with rfl | ⟨a, y, rfl⟩
      · cases hl
      have hl : a.length = n := by simpa using hl
      refine ih a (y :: b) hl (by rw [e]; simp) fun p hp => ?_
      simp only [List.mem_cons] at hp
      rcases hp with hp | hp
      · subst hp
        cases ey : m p with
        | none => rfl
        | some c =>
          have h4 := (x.four p (by rw [ey]; rfl)).1
          have h1 := x.ex p h4
          rw [ey] at h1
          simp only at h1
          have hr := x.row p
          rw [ey] at hr
          have hc : c ≠ 0 := fun hc => by have := hr.mpr (by rw [hc]); cases this
          have ht : 0 < tot fl ps m none [] p := by omega
          unfold tot at ht
          rw [List.count_nil, Nat.zero_add, List.count_pos_iff, List.mem_flatMap] at ht
          obtain ⟨q, hq, hw⟩ := ht
          rw [List.mem_filter] at hq
          have hq := hq.1
          unfold here at hq
          rw [List.mem_filter] at hq
          obtain ⟨hq1, hq2⟩ := hq
          obtain ⟨a1, b1, e1⟩ := List.append_of_mem hq1
          have hpa := dag a1 q b1 e1 p hw h4
          -- p stands ahead of q, yet all behind p are gone
          have e' : ps = a ++ p :: b := by rw [e]; simp
          have hqa : q ∈ b → False := fun hb => by rw [h q hb] at hq2; cases hq2
          rw [e'] at hq1
          simp only [List.mem_append, List.mem_cons] at hq1
          rcases hq1 with hq1 | hq1 | hq1
          · obtain ⟨c1, d1, f1⟩ := List.append_of_mem hq1
            have f2 : ps = c1 ++ q :: (d1 ++ p :: b) := by rw [e', f1]; simp
            have hpc := dag _ _ _ f2 p hw h4
            rw [f2] at nd
            have := List.nodup_append.mp nd
            exact absurd rfl (this.2.2 p hpc p (by simp))
          · subst hq1
            have hpc := dag _ _ _ e' q hw h4
            rw [e'] at nd
            have := List.nodup_append.mp nd
            exact absurd rfl (this.2.2 q hpc q (by simp))
          · exact (hqa hq1).elim
      · exact h p hp
  intro p
  cases e : m p with
  | none => rfl
  | some c =>
    have := main _ ps [] rfl (by simp) (by simp) p (x.four p (by rw [e]; rfl)).2
    rw [e] at this
    cases this
end Giv

namespace K71
open PySem PySem.Spec L2 DL
def top (i : Nat) : Stmt := PySem.Challenge.pw_cellforge_k71_whole_words_given_back.main.body.getD i (.Pass ⟨0, 0, 0, 0⟩)
abbrev P : Program := PySem.Challenge.pw_cellforge_k71_whole_words_given_back
abbrev c_HALF : DL.D := (.int 2147483648)
abbrev c_LEAST : DL.D := (.int 16)
abbrev c_CELLS : DL.D := (.int 1024)
abbrev c_HOLDERS : DL.D := (.int 1000000)
abbrev c_FIELDS : DL.D := (.int 80)
abbrev c_WIDTHS : DL.D := (.kd ["fun", "link", "pair"] [(.tup [(.int 2), (.int 80)]), (.tup [(.int 2), (.int 2)]), (.tup [(.int 2), (.int 2)])])
structure Fx (w : World) (K : PySem.W.Frag) (mg : Str → Option Value) (C : Cn) : Prop where
  hK : K = C.K
  hw : w = C.w
  hmg : mg = C.mg
  n_ValueError : mg "ValueError" = none
  n_abs : mg "abs" = none
  n_all : mg "all" = none
  n_bool : mg "bool" = none
  n_dict : mg "dict" = none
  n_int : mg "int" = none
  n_isinstance : mg "isinstance" = none
  n_len : mg "len" = none
  n_list : mg "list" = none
  n_range : mg "range" = none
  n_sorted : mg "sorted" = none
  n_str : mg "str" = none
  n_tuple : mg "tuple" = none
  n_zip : mg "zip" = none
  k_HALF : DCon mg C "HALF" c_HALF
  k_LEAST : DCon mg C "LEAST" c_LEAST
  k_CELLS : DCon mg C "CELLS" c_CELLS
  k_HOLDERS : DCon mg C "HOLDERS" c_HOLDERS
  k_FIELDS : DCon mg C "FIELDS" c_FIELDS
  k_WIDTHS : DCon mg C "WIDTHS" c_WIDTHS
  at_Drop_cells : AttrOk C "Drop" "cells"
  at_Drop_row : AttrOk C "Drop" "row"
  x_InvalidHeap : DExc K mg C "InvalidHeap"
  x_InvalidWord : DExc K mg C "InvalidWord"
  g_is_whole : mg "is_whole" = some (.ref (He.ga K "is_whole"))
  d_is_whole : ∃ fd, FunD K "is_whole" "is_whole" (defArgs (top 5)) (defBody (top 5)) (defScope (top 5)) [] [] (He.ga K "is_whole") fd
  g_is_tuple_of : mg "is_tuple_of" = some (.ref (He.ga K "is_tuple_of"))
  d_is_tuple_of : ∃ fd, FunD K "is_tuple_of" "is_tuple_of" (defArgs (top 6)) (defBody (top 6)) (defScope (top 6)) [] [] (He.ga K "is_tuple_of") fd
  g_is_word : mg "is_word" = some (.ref (He.ga K "is_word"))
  d_is_word : ∃ fd, FunD K "is_word" "is_word" (defArgs (top 9)) (defBody (top 9)) (defScope (top 9)) [] [] (He.ga K "is_word") fd
  g_points : mg "points" = some (.ref (He.ga K "points"))
  d_points : ∃ fd, FunD K "points" "points" (defArgs (top 16)) (defBody (top 16)) (defScope (top 16)) [] [] (He.ga K "points") fd
  g_fits_fields : mg "fits_fields" = some (.ref (He.ga K "fits_fields"))
  d_fits_fields : ∃ fd, FunD K "fits_fields" "fits_fields" (defArgs (top 17)) (defBody (top 17)) (defScope (top 17)) [] [] (He.ga K "fits_fields") fd
  g_fits_cell : mg "fits_cell" = some (.ref (He.ga K "fits_cell"))
  d_fits_cell : ∃ fd, FunD K "fits_cell" "fits_cell" (defArgs (top 18)) (defBody (top 18)) (defScope (top 18)) [] [] (He.ga K "fits_cell") fd
  g_end_of : mg "end_of" = some (.ref (He.ga K "end_of"))
  d_end_of : ∃ fd, FunD K "end_of" "end_of" (defArgs (top 19)) (defBody (top 19)) (defScope (top 19)) [] [] (He.ga K "end_of") fd
  g_fits_heap : mg "fits_heap" = some (.ref (He.ga K "fits_heap"))
  d_fits_heap : ∃ fd, FunD K "fits_heap" "fits_heap" (defArgs (top 20)) (defBody (top 20)) (defScope (top 20)) [] [] (He.ga K "fits_heap") fd
  g_cells_by : mg "cells_by" = some (.ref (He.ga K "cells_by"))
  d_cells_by : ∃ fd, FunD K "cells_by" "cells_by" (defArgs (top 21)) (defBody (top 21)) (defScope (top 21)) [] [] (He.ga K "cells_by") fd
  g_need_heap : mg "need_heap" = some (.ref (He.ga K "need_heap"))
  d_need_heap : ∃ fd, FunD K "need_heap" "need_heap" (defArgs (top 22)) (defBody (top 22)) (defScope (top 22)) [] [] (He.ga K "need_heap") fd
  g_need_words : mg "need_words" = some (.ref (He.ga K "need_words"))
  d_need_words : ∃ fd, FunD K "need_words" "need_words" (defArgs (top 24)) (defBody (top 24)) (defScope (top 24)) [] [] (He.ga K "need_words") fd
  d_Drop_init : ∃ fd, FunD K "__init__" "Drop.__init__" (defArgs (inClass (top 26) 0)) (defBody (inClass (top 26) 0)) (defScope (inClass (top 26) 0)) [] [] (He.ma K (He.ga K "Drop") "__init__") fd
  d_Drop_less : ∃ fd, FunD K "less" "Drop.less" (defArgs (inClass (top 26) 1)) (defBody (inClass (top 26) 1)) (defScope (inClass (top 26) 1)) [] [] (He.ma K (He.ga K "Drop") "less") fd
  m_Drop_less : Meth K (He.ga K "Drop") "less" (He.ma K (He.ga K "Drop") "less")
  d_Drop_first_broken : ∃ fd, FunD K "first_broken" "Drop.first_broken" (defArgs (inClass (top 26) 2)) (defBody (inClass (top 26) 2)) (defScope (inClass (top 26) 2)) [] [] (He.ma K (He.ga K "Drop") "first_broken") fd
  m_Drop_first_broken : Meth K (He.ga K "Drop") "first_broken" (He.ma K (He.ga K "Drop") "first_broken")
  d_Drop_heap : ∃ fd, FunD K "heap" "Drop.heap" (defArgs (inClass (top 26) 3)) (defBody (inClass (top 26) 3)) (defScope (inClass (top 26) 3)) [] [] (He.ma K (He.ga K "Drop") "heap") fd
  m_Drop_heap : Meth K (He.ga K "Drop") "heap" (He.ma K (He.ga K "Drop") "heap")
  g_freed_in : mg "freed_in" = some (.ref (He.ga K "freed_in"))
  d_freed_in : ∃ fd, FunD K "freed_in" "freed_in" (defArgs (top 27)) (defBody (top 27)) (defScope (top 27)) [] [] (He.ga K "freed_in") fd
  g_freed_by : mg "freed_by" = some (.ref (He.ga K "freed_by"))
  d_freed_by : ∃ fd, FunD K "freed_by" "freed_by" (defArgs (top 28)) (defBody (top 28)) (defScope (top 28)) [] [] (He.ga K "freed_by") fd
  g__law_cup : mg "_law_cup" = some (.ref (He.ga K "_law_cup"))
  d__law_cup : ∃ fd, FunD K "_law_cup" "_law_cup" (defArgs (top 30)) (defBody (top 30)) (defScope (top 30)) [] [] (He.ga K "_law_cup") fd
  g__law_roll : mg "_law_roll" = some (.ref (He.ga K "_law_roll"))
  d__law_roll : ∃ fd, FunD K "_law_roll" "_law_roll" (defArgs (top 31)) (defBody (top 31)) (defScope (top 31)) [] [] (He.ga K "_law_roll") fd
  g__law_some : mg "_law_some" = some (.ref (He.ga K "_law_some"))
  d__law_some : ∃ fd, FunD K "_law_some" "_law_some" (defArgs (top 32)) (defBody (top 32)) (defScope (top 32)) [] [] (He.ga K "_law_some") fd
  g__law_spots : mg "_law_spots" = some (.ref (He.ga K "_law_spots"))
  d__law_spots : ∃ fd, FunD K "_law_spots" "_law_spots" (defArgs (top 33)) (defBody (top 33)) (defScope (top 33)) [] [] (He.ga K "_law_spots") fd
  g__law_count : mg "_law_count" = some (.ref (He.ga K "_law_count"))
  d__law_count : ∃ fd, FunD K "_law_count" "_law_count" (defArgs (top 34)) (defBody (top 34)) (defScope (top 34)) [] [] (He.ga K "_law_count") fd
  g__law_heap : mg "_law_heap" = some (.ref (He.ga K "_law_heap"))
  d__law_heap : ∃ fd, FunD K "_law_heap" "_law_heap" (defArgs (top 35)) (defBody (top 35)) (defScope (top 35)) [] [] (He.ga K "_law_heap") fd
  g__law_shared : mg "_law_shared" = some (.ref (He.ga K "_law_shared"))
  d__law_shared : ∃ fd, FunD K "_law_shared" "_law_shared" (defArgs (top 36)) (defBody (top 36)) (defScope (top 36)) [] [] (He.ga K "_law_shared") fd
  g__law_drop : mg "_law_drop" = some (.ref (He.ga K "_law_drop"))
  d__law_drop : ∃ fd, FunD K "_law_drop" "_law_drop" (defArgs (top 37)) (defBody (top 37)) (defScope (top 37)) [] [] (He.ga K "_law_drop") fd
  g__law_error : mg "_law_error" = some (.ref (He.ga K "_law_error"))
  d__law_error : ∃ fd, FunD K "_law_error" "_law_error" (defArgs (top 38)) (defBody (top 38)) (defScope (top 38)) [] [] (He.ga K "_law_error") fd
  g__law_right : mg "_law_right" = some (.ref (He.ga K "_law_right"))
  d__law_right : ∃ fd, FunD K "_law_right" "_law_right" (defArgs (top 39)) (defBody (top 39)) (defScope (top 39)) [] [] (He.ga K "_law_right") fd
  g_law : mg "law" = some (.ref (He.ga K "law"))
  d_law : ∃ fd, FunD K "law" "law" (defArgs (top 40)) (defBody (top 40)) (defScope (top 40)) [] [] (He.ga K "law") fd
  gc_Drop : mg "Drop" = some (.ref (He.ga K "Drop"))
  cl_Drop : Cls K (He.ga K "Drop")
  mk_Drop : Mk K (He.ga K "Drop") (He.ma K (He.ga K "Drop") "__init__")
  gx_ForgeError : mg "ForgeError" = some (.ref (He.ga K "ForgeError"))
  gx_InvalidHeap : mg "InvalidHeap" = some (.ref (He.ga K "InvalidHeap"))
  gx_InvalidWord : mg "InvalidWord" = some (.ref (He.ga K "InvalidWord"))
  e_InvalidHeap_ForgeError : PySem.W.exmOne K (.ref (He.ga K "InvalidHeap")) (.ref (He.ga K "ForgeError")) = some true
  e_InvalidHeap_InvalidHeap : PySem.W.exmOne K (.ref (He.ga K "InvalidHeap")) (.ref (He.ga K "InvalidHeap")) = some true
  e_InvalidHeap_InvalidWord : PySem.W.exmOne K (.ref (He.ga K "InvalidHeap")) (.ref (He.ga K "InvalidWord")) = some false
  e_InvalidWord_ForgeError : PySem.W.exmOne K (.ref (He.ga K "InvalidWord")) (.ref (He.ga K "ForgeError")) = some true
  e_InvalidWord_InvalidHeap : PySem.W.exmOne K (.ref (He.ga K "InvalidWord")) (.ref (He.ga K "InvalidHeap")) = some false
  e_InvalidWord_InvalidWord : PySem.W.exmOne K (.ref (He.ga K "InvalidWord")) (.ref (He.ga K "InvalidWord")) = some true
  hT : C.T = [((He.cT K ("law", none)).2, (("law" : Str) ++ ".<locals>.") ++ "<lambda>")]
def m_is_whole : MS := (seqM (retM (andM (isiM "int" (slot true 0)) (andM (notM (isiM "bool" (slot true 0))) (chainM (slot true 1) (slot true 0) (slot true 2) (cmpI fun i j => decide (i ≤ j)) (cmpI fun i j => decide (i ≤ j)))))) skipM)
abbrev F_is_whole : FS := runF 3 m_is_whole
def m_is_tuple_of : MS := (seqM (retM (andM (isiM "tuple" (slot true 0)) (chainM (slot true 1) (appA (argsM [(slot true 0)]) lenF) (slot true 2) (cmpI fun i j => decide (i ≤ j)) (cmpI fun i j => decide (i ≤ j))))) skipM)
abbrev F_is_tuple_of : FS := runF 3 m_is_tuple_of
def m_is_word : MS := (seqM (retM (callM 3 F_is_whole (argsM [(slot false 0), (un (cst c_HALF) negO), (bin (cst c_HALF) (cst (.int 1)) (opI0 (· - ·)))]))) skipM)
abbrev F_is_word : FS := runF 1 m_is_word
def m_points : MS := (seqM (retM (bin (bin (slot true 0) (cst (.int 4)) (opI modC (· % ·))) (cst (.int 0)) eqO)) skipM)
abbrev F_points : FS := runF 1 m_points
def m_fits_fields : MS := (seqM (asgM (tgTup [(tgName 2), (tgName 3)]) (bin (cst c_WIDTHS) (slot true 0) ixO)) (seqM (retM (andM (callM 3 F_is_tuple_of (argsM [(slot false 1), (slot false 2), (slot false 3)])) (appA (argsM [(lcM (seqS (slot true 1)) [4] (tgName 4) yesM (callM 1 F_is_word (argsM [(slot false 4)])))]) allF))) skipM))
abbrev F_fits_fields : FS := runF 5 m_fits_fields
def m_fits_cell : MS := (seqM (ifM (orM (notM (callM 3 F_is_tuple_of (argsM [(slot false 0), (cst (.int 4)), (cst (.int 4))]))) (orM (notM (callM 3 F_is_whole (argsM [(bin (slot true 0) (cst (.int 0)) ixO), (cst c_LEAST), (bin (cst c_HALF) (cst (.int 1)) (opI0 (· - ·)))]))) (notM (callM 1 F_points (argsM [(bin (slot true 0) (cst (.int 0)) ixO)])))))
  (seqM (retM (cst (.bl false))) skipM)
  skipM) (seqM (ifM (orM (notM (callM 3 F_is_whole (argsM [(bin (slot true 0) (cst (.int 1)) ixO), (cst (.int 1)), (cst c_HOLDERS)]))) (orM (notM (isiM "str" (bin (slot true 0) (cst (.int 2)) ixO))) (bin (bin (slot true 0) (cst (.int 2)) ixO) (cst c_WIDTHS) ninO)))
  (seqM (retM (cst (.bl false))) skipM)
  skipM) (seqM (retM (callM 2 F_fits_fields (argsM [(bin (slot true 0) (cst (.int 2)) ixO), (bin (slot true 0) (cst (.int 3)) ixO)]))) skipM)))
abbrev F_fits_cell : FS := runF 1 m_fits_cell
def m_end_of : MS := (seqM (retM (bin (bin (bin (slot true 0) (cst (.int 0)) ixO) (cst (.int 8)) addO) (bin (cst (.int 4)) (appA (argsM [(bin (slot true 0) (cst (.int 3)) ixO)]) lenF) (opI mulC (· * ·))) addO)) skipM)
abbrev F_end_of : FS := runF 1 m_end_of
def m_fits_heap : MS := (seqM (ifM (orM (notM (callM 3 F_is_tuple_of (argsM [(slot false 0), (cst (.int 0)), (cst c_CELLS)]))) (notM (appA (argsM [(lcM (seqS (slot true 0)) [1] (tgName 1) yesM (callM 1 F_fits_cell (argsM [(slot false 1)])))]) allF)))
  (seqM (retM (cst (.bl false))) skipM)
  skipM) (seqM (retM (appA (argsM [(lcM (zipTS (argsM [(slot true 0), (sliceM (slot true 0) (.at_ (cst (.int 1))) .no)])) [2, 3] (tgTup [(tgName 2), (tgName 3)]) yesM (bin (callM 1 F_end_of (argsM [(slot false 2)])) (bin (slot true 3) (cst (.int 0)) ixO) (cmpI fun i j => decide (i ≤ j))))]) allF)) skipM))
abbrev F_fits_heap : FS := runF 4 m_fits_heap
def m_cells_by : MS := (seqM (retM (dcM (seqS (slot true 0)) [1] (tgName 1) yesM (bin (slot true 1) (cst (.int 0)) ixO) (slot true 1))) skipM)
abbrev F_cells_by : FS := runF 2 m_cells_by
def m_need_heap : MS := (seqM (ifM (notM (callM 1 F_fits_heap (argsM [(slot false 0)])))
  (seqM (raiseM "InvalidHeap") skipM)
  skipM) skipM)
abbrev F_need_heap : FS := runF 1 m_need_heap
def m_need_words : MS := (seqM (ifM (notM (callM 1 F_is_word (argsM [(slot false 0)])))
  (seqM (raiseM "InvalidWord") skipM)
  skipM) skipM)
abbrev F_need_words : FS := runF 1 m_need_words
def m_Drop_init : MS := (seqM (putFldM "Drop" "cells" (escM (callM 1 F_cells_by (argsM [(slot false 1)]))) (slot true 0)) (seqM (putFldM "Drop" "row" (escM (lstM (argsM []))) (slot true 0)) skipM))
abbrev F_Drop_init : FS := runF 2 m_Drop_init
def m_Drop_less : MS := (seqM (ifM (bin (slot true 1) (un (slot true 0) (fldO "Drop" "cells")) ninO)
  (seqM (retM (cst (.bl true))) skipM)
  skipM) (seqM (asgM (tgTup [(tgName 2), (tgName 3), (tgName 4), (tgName 5)]) (bin (un (slot true 0) (fldO "Drop" "cells")) (slot true 1) ixO)) (seqM (putM (tupM (argsM [(slot false 2), (bin (slot true 3) (cst (.int 1)) (opI0 (· - ·))), (slot false 4), (slot false 5)])) (un (slot true 0) (fldO "Drop" "cells")) (slot true 1)) (seqM (ifM (bin (slot true 3) (cst (.int 1)) eqO)
  (seqM (exprM (lmM appendF (un (slot true 0) (fldO "Drop" "row")) (argsM [(slot true 1)]))) skipM)
  skipM) (seqM (retM (cst (.bl false))) skipM)))))
abbrev F_Drop_less : FS := runF 6 m_Drop_less
def m_Drop_first_broken : MS := (seqM (forM (seqS (slot false 1)) (tgName 2)
  (seqM (ifM (andM (callM 1 F_points (argsM [(slot false 2)])) (methM "Drop" "less" 1 F_Drop_less (slot true 0) (argsM [(slot false 2)])))
  (seqM (retM (slot true 2)) skipM)
  skipM) skipM)) (seqM (retM (cst .non)) skipM))
abbrev F_Drop_first_broken : FS := runF 3 m_Drop_first_broken
def m_Drop_heap : MS := (seqM (retM (appA (argsM [(lcM (seqS (appA (argsM [(un (slot true 0) (fldO "Drop" "cells"))]) sortedF)) [1] (tgName 1) yesM (bin (un (slot true 0) (fldO "Drop" "cells")) (slot true 1) ixO))]) tupleF)) skipM)
abbrev F_Drop_heap : FS := runF 2 m_Drop_heap
def m_freed_in : MS := (seqM (parM 2 3 (argsM [(makeM "Drop" 1 F_Drop_init (argsM [(slot false 0)])), (lstM (argsM []))])) (seqM (setM 4 (methM "Drop" "first_broken" 1 F_Drop_first_broken (slot true 2) (argsM [(escM (lstM (argsM [(slot false 1)])))]))) (seqM (whileM (andM (bin (slot true 4) (cst .non) isO) (bin (appA (argsM [(slot true 3)]) lenF) (appA (argsM [(un (slot true 2) (fldO "Drop" "row"))]) lenF) (cmpI fun i j => decide (i < j))))
  (seqM (setM 5 (bin (un (slot true 2) (fldO "Drop" "row")) (appA (argsM [(slot true 3)]) lenF) ixO)) (seqM (setM 4 (methM "Drop" "first_broken" 1 F_Drop_first_broken (slot true 2) (argsM [(bin (bin (un (slot true 2) (fldO "Drop" "cells")) (slot true 5) ixO) (cst (.int 3)) ixO)]))) (seqM (exprM (dpop2M (un (slot true 2) (fldO "Drop" "cells")) (slot true 5) (cst .non))) (seqM (appendOwnM 3 (slot true 5)) skipM)))) 100000) (seqM (retM (iteM (bin (slot true 4) (cst .non) isnO) (tupM (argsM [(cst (.str "broken")), (slot false 4)])) (tupM (argsM [(cst (.str "freed")), (appA (argsM [(slot true 3)]) tupleF), (methM "Drop" "heap" 0 F_Drop_heap (slot true 2) (argsM []))])))) skipM))))
abbrev F_freed_in : FS := runF 6 m_freed_in
def m_freed_by : MS := (seqM (exprM (callM 1 F_need_heap (argsM [(slot false 0)]))) (seqM (exprM (callM 1 F_need_words (argsM [(slot false 1)]))) (seqM (retM (callM 2 F_freed_in (argsM [(slot false 0), (slot false 1)]))) skipM)))
abbrev F_freed_by : FS := runF 2 m_freed_by
def m__law_cup : MS := (seqM (setM 1 (appA (argsM [(bin (bin (appA (argsM [(slot true 0)]) listF) (lstM (argsM [(cst (.int 0))])) addO) (cst (.int 0)) ixO)]) absF)) (seqM (retM (lstM (argsM [(iteM (bin (slot true 1) (bin (cst (.int 10)) (cst (.int 18)) (opI powC fun i j => i ^ j.toNat)) (cmpI fun i j => decide (j ≤ i))) (bin (slot true 1) (cst (.int 101)) (opI divC (· / ·))) (cst (.int 0))), (bin (bin (appA (argsM [(bin (bin (slot true 1) (cst (.int 317)) (opI mulC (· * ·))) (cst (.int 2719)) addO)]) intF) (cst (.int 2077503089)) (opI modC (· % ·))) (cst (.int 197)) addO)]))) skipM))
abbrev F__law_cup : FS := runF 2 m__law_cup
def m__law_roll : MS := (seqM (ifM (bin (bin (slot true 0) (cst (.int 0)) ixO) (cst (.int 0)) (cmpI fun i j => decide (j < i)))
  (seqM (setM 2 (bin (appA (argsM [(bin (slot true 0) (cst (.int 0)) ixO)]) intF) (slot true 1) (opI modC (· % ·)))) (seqM (putM (bin (bin (slot true 0) (cst (.int 0)) ixO) (slot true 1) (opI divC (· / ·))) (slot true 0) (cst (.int 0))) (seqM (retM (slot true 2)) skipM)))
  skipM) (seqM (putM (bin (appA (argsM [(bin (bin (bin (slot true 0) (cst (.int 1)) ixO) (cst (.int 31123)) (opI mulC (· * ·))) (cst (.int 8069)) addO)]) intF) (cst (.int 2147483543)) (opI modC (· % ·))) (slot true 0) (cst (.int 1))) (seqM (setM 3 (bin (appA (argsM [(bin (bin (slot true 0) (cst (.int 1)) ixO) (bin (bin (slot true 0) (cst (.int 1)) ixO) (cst (.int 269)) addO) (opI mulC (· * ·)))]) intF) (cst (.int 2147483587)) (opI modC (· % ·)))) (seqM (retM (bin (appA (argsM [(bin (slot true 3) (cst (.int 859)) (opI divC (· / ·)))]) intF) (slot true 1) (opI modC (· % ·)))) skipM))))
abbrev F__law_roll : FS := runF 4 m__law_roll
def m__law_some : MS := (seqM (retM (bin (slot true 1) (callM 2 F__law_roll (argsM [(slot false 0), (appA (argsM [(slot true 1)]) lenF)])) ixO)) skipM)
abbrev F__law_some : FS := runF 2 m__law_some
def m__law_spots : MS := (seqM (parM 1 2 (argsM [(escM (lcM (range1S (cst (.int 24))) [3] (tgName 3) yesM (bin (cst (.int 16)) (bin (cst (.int 16)) (slot true 3) (opI mulC (· * ·))) addO))), (lstM (argsM []))])) (seqM (whileM (bin (slot true 1) (lstM (argsM [])) neO)
  (seqM (appendOwnM 2 (lmM popF (slot true 1) (argsM [(callM 2 F__law_roll (argsM [(slot false 0), (appA (argsM [(slot true 1)]) lenF)]))]))) skipM) 100000) (seqM (retM (slot true 2)) skipM)))
abbrev F__law_spots : FS := runF 4 m__law_spots
def m__law_count : MS := (seqM (setM 2 (appA (argsM [(lockM 0 (lcM (dictS (slot true 0)) [4] (tgName 4) yesM (tupM (argsM [(slot false 4), (cst (.int 0))]))))]) dictF)) (seqM (setM 3 (escM (appA (argsM [(slot true 1)]) listF))) (seqM (lockS 0 (forM (dictS (slot true 0)) (tgName 4)
  (seqM (setM 3 (escM (bin (slot true 3) (appA (argsM [(bin (bin (slot true 0) (slot true 4) ixO) (cst (.int 1)) ixO)]) listF) addO))) skipM))) (seqM (forM (seqS (slot false 3)) (tgName 5)
  (seqM (ifM (bin (slot true 5) (slot true 2) inO)
  (seqM (putOwnM 2 (bin (bin (slot true 2) (slot true 5) ixO) (cst (.int 1)) addO) (slot true 5)) skipM)
  skipM) skipM)) (seqM (retM (slot true 2)) skipM)))))
abbrev F__law_count : FS := runF 6 m__law_count
def m__law_heap : MS := (seqM (retM (appA (argsM [(lcM (seqS (appA (argsM [(slot true 0)]) sortedF)) [2] (tgName 2) yesM (tupM (argsM [(slot false 2), (bin (slot true 1) (slot true 2) ixO), (bin (bin (slot true 0) (slot true 2) ixO) (cst (.int 0)) ixO), (appA (argsM [(bin (bin (slot true 0) (slot true 2) ixO) (cst (.int 1)) ixO)]) tupleF)])))]) tupleF)) skipM)
abbrev F__law_heap : FS := runF 3 m__law_heap
def m__law_shared : MS := (seqM (asgM (tgTup [(tgName 2), (tgName 3), (tgName 4)]) (tupM (argsM [(callM 1 F__law_spots (argsM [(slot false 0)])), (fun _ S => .ok (.vd []) S), (lstM (argsM [(cst (.int 1)), (cst (.int 3)), (cst (.int 2)), (cst (.int 7)), (un (cst (.int 5)) negO)]))]))) (seqM (forM (range1S (slot true 1)) (tgName 5)
  (seqM (setM 6 (callM 2 F__law_some (argsM [(slot false 0), (lstM (argsM [(cst (.str "link")), (cst (.str "pair")), (cst (.str "link")), (cst (.str "fun"))]))]))) (seqM (parM 7 8 (argsM [(lmM popF (slot true 2) (argsM [(cst (.int 0))])), (cst (.int 2))])) (seqM (putM (escM (lstM (argsM [(slot false 6), (lcM (range1S (slot true 8)) [11] (tgName 11) yesM (callM 2 F__law_some (argsM [(slot false 0), (bin (sliceM (slot true 4) (.at_ (un (cst (.int 4)) negO)) .no) (slot true 4) addO)])))]))) (slot true 3) (slot true 7)) (seqM (exprM (lmM appendF (slot true 4) (argsM [(slot true 7)]))) skipM))))) (seqM (setM 9 (escM (callM 2 F__law_count (argsM [(slot false 3), (tupM (argsM []))])))) (seqM (setM 10 (escM (lcM (seqS (appA (argsM [(slot true 3)]) sortedF)) [7] (tgName 7) (bin (bin (slot true 9) (slot true 7) ixO) (cst (.int 0)) eqO) (slot true 7)))) (seqM (forM (range1S (callM 2 F__law_roll (argsM [(slot false 0), (cst (.int 3))]))) (tgName 5)
  (seqM (exprM (lmM appendF (slot true 10) (argsM [(callM 2 F__law_some (argsM [(slot false 0), (slot false 4)]))]))) skipM)) (seqM (retM (tupM (argsM [(slot false 3), (appA (argsM [(slot true 10)]) tupleF)]))) skipM))))))
abbrev F__law_shared : FS := runF 12 m__law_shared
def m__law_drop : MS := (seqM (parM 3 4 (argsM [(lstM (argsM [])), (lstM (argsM []))])) (seqM (setM 5 (escM (lstM (argsM [(slot false 2)])))) (seqM (whileM (cst (.bl true))
  (seqM (forM (seqS (slot false 5)) (tgName 6)
  (seqM (ifM (bin (bin (appA (argsM [(slot true 6)]) intF) (cst (.int 4)) (opI modC (· % ·))) (cst (.int 0)) eqO)
  (seqM (ifM (bin (slot true 6) (slot true 0) ninO)
  (seqM (retM (tupM (argsM [(cst (.str "broken")), (slot false 6)]))) skipM)
  skipM) (seqM (putM (bin (bin (slot true 1) (slot true 6) ixO) (cst (.int 1)) (opI0 (· - ·))) (slot true 1) (slot true 6)) (seqM (ifM (bin (bin (slot true 1) (slot true 6) ixO) (cst (.int 0)) eqO)
  (seqM (appendOwnM 3 (slot true 6)) skipM)
  skipM) skipM)))
  skipM) skipM)) (seqM (ifM (bin (slot true 4) (lstM (argsM [])) neO)
  (seqM (exprM (dpopM (slot true 0) (bin (slot true 4) (un (cst (.int 1)) negO) ixO))) skipM)
  skipM) (seqM (ifM (bin (appA (argsM [(slot true 4)]) lenF) (appA (argsM [(slot true 3)]) lenF) eqO)
  (seqM (retM (tupM (argsM [(cst (.str "freed")), (appA (argsM [(slot true 4)]) tupleF)]))) skipM)
  skipM) (seqM (appendOwnM 4 (bin (slot true 3) (appA (argsM [(slot true 4)]) lenF) ixO)) (seqM (setM 5 (escM (appA (argsM [(bin (bin (slot true 0) (bin (slot true 4) (un (cst (.int 1)) negO) ixO) ixO) (cst (.int 1)) ixO)]) listF))) skipM))))) 100000) skipM)))
abbrev F__law_drop : FS := runF 7 m__law_drop
def sel__law_error : Str → Option Str := fun c => if c = "InvalidHeap" then some "heap" else if c = "InvalidWord" then some "word" else none
def ret__law_error : Str := ""
theorem pick__law_error {w : World} {K : PySem.W.Frag} {mg : Str → Option Value} {C : Cn} (L : Fx w K mg C) : ∀ c A r, C.mg c = some (.ref A) → sel__law_error c = some r → pick C.K (.ref A) [(.ref (He.ga K "InvalidHeap"), "heap"), (.ref (He.ga K "InvalidWord"), "word"), (.ref (He.ga K "ForgeError"), "other")] = some r := by
  intro c A r h1 h2
  rw [← L.hmg] at h1
  rw [← L.hK]
  unfold sel__law_error at h2
  split at h2
  · rename_i e
    subst e
    rw [L.gx_InvalidHeap] at h1
    cases h1; cases h2
    simp only [pick, L.e_InvalidHeap_InvalidHeap]
  split at h2
  · rename_i e
    subst e
    rw [L.gx_InvalidWord] at h1
    cases h1; cases h2
    simp only [pick, L.e_InvalidWord_InvalidHeap, L.e_InvalidWord_InvalidWord]
  cases h2
theorem lam__law_error {w : World} {K : PySem.W.Frag} {mg : Str → Option Value} {C : Cn} {X : Cx} {W : XK} {k : Nat} {b : Bool} {m : M} {params : Arguments} {body : Expr} {scope : Scope} {p lpos pos : Pos} {cc Pt : Addr} (L : Fx w K mg C) (o : XOk X C W (k + 2)) (TB : LamX.TabB X.base X.mg cc Pt) (hcode : X.env.code = .ref cc)
    (hT : C.T = [(Pt, X.env.qual ++ "<lambda>")]) (hbody : ∀ (A : Around) (outer : List Env) (s : Shared) (H : Hp) (E : XK) (f c' : Addr), Room k (A.deeper (LamX.lamEnv X scope s.heap.objs.size f c')) → DE (LamX.lamCx X A outer s H E scope f c') C E true body m) (hl : LamX.lamSB X.env.scope scope = true := by rfl) (hg : Gl X "_law_error" := by rfl)
    (hKK : X.K = K := by rfl) (hMM : X.mg = mg := by rfl) (hdef : defaultsOf params X.env = ([], []) := by rfl) (hbind : ∀ (q : Str) (cl : List (Str × Addr)) (pm cv ctv : Value), bindArgs (PySem.W.kla_fn "<lambda>" q params body scope cl pm cv ctv) ⟨[], []⟩ = pure [] := by intros; rfl) :
    DE X C W b (.Call (.Name "_law_error" p) [.Lambda params body scope lpos] [] pos) (lamErrM sel__law_error ret__law_error m) := by
  subst hKK
  subst hMM
  obtain ⟨fd, F⟩ := L.d__law_error
  have hb := FunD.bindsN (ps := ["call"]) F fun _ _ _ _ _ _ us hl => match us, hl with | [_], _ => rfl
  have kp := F.kp
  obtain ⟨oc, od, dV, kV, doc, pm, an, cdv, ct, osl, rfl, lk, hcd, _, _⟩ := F.ex
  exact de_lamErr (Ng := ["call"]) (a := "call") o.K (pick__law_error L) hg L.g__law_error kp lk hcd hb (C8.fnScope_by (by decide +kernel)) rfl (vis_by (by rfl)) (many_gives (fun s H => (.cons ⟨rfl, rfl, .inl L.gx_InvalidHeap⟩ (.cons ⟨rfl, rfl, .inl L.gx_InvalidWord⟩ (.cons ⟨rfl, rfl, .inl L.gx_ForgeError⟩ .nil)))) (fun f => rfl) (fun s H pn xe => by rfl)) TB hcode (by rw [hT]; exact List.mem_singleton.mpr rfl) (fun p hp _ => by rw [hT] at hp; rw [List.mem_singleton.mp hp]) o.rm (LamX.lamS_by hl) hdef hbind hbody (by rfl) (by rfl) (by rfl)
def m__law_right : MS := (seqM (setM 3 (callM 2 F_freed_by (argsM [(callM 2 F__law_heap (argsM [(slot false 0), (slot false 1)])), (slot false 2)]))) (seqM (parM 4 5 (argsM [(escM (appA (argsM [(lockM 0 (lcM (dictS (slot true 0)) [7] (tgName 7) yesM (tupM (argsM [(slot false 7), (bin (slot true 0) (slot true 7) ixO)]))))]) dictF)), (escM (appA (argsM [(lockM 1 (lcM (dictS (slot true 1)) [7] (tgName 7) yesM (tupM (argsM [(slot false 7), (bin (slot true 1) (slot true 7) ixO)]))))]) dictF))])) (seqM (setM 6 (callM 3 F__law_drop (argsM [(slot false 4), (slot false 5), (slot false 2)]))) (seqM (ifM (bin (bin (slot true 6) (cst (.int 0)) ixO) (cst (.str "broken")) eqO)
  (seqM (retM (bin (slot true 3) (slot true 6) eqO)) skipM)
  skipM) (seqM (retM (bin (slot true 3) (bin (slot true 6) (tupM (argsM [(callM 2 F__law_heap (argsM [(slot false 4), (slot false 5)]))])) addO) eqO)) skipM)))))
abbrev F__law_right : FS := runF 8 m__law_right
def m_law : MS := (seqM (setM 1 (escM (callM 1 F__law_cup (argsM [(slot false 0)])))) (seqM (asgM (tgTup [(tgName 2), (tgName 3)]) (callM 2 F__law_shared (argsM [(slot false 1), (bin (cst (.int 2)) (callM 2 F__law_roll (argsM [(slot false 1), (cst (.int 8))])) addO)]))) (seqM (parM 4 5 (argsM [(escM (callM 2 F__law_count (argsM [(slot false 2), (slot false 3)]))), (escM (appA (argsM [(lockM 2 (lcM (dictS (slot true 2)) [15] (tgName 15) yesM (tupM (argsM [(slot false 15), (cst (.int 1))]))))]) dictF))])) (seqM (forM (range1S (cst (.int 3))) (tgName 6)
  (seqM (setM 7 (callM 2 F__law_some (argsM [(slot false 1), (bin (bin (appA (argsM [(slot true 2)]) listF) (appA (argsM [(slot true 3)]) listF) addO) (lstM (argsM [(cst (.int 1)), (cst (.int 2)), (cst (.int 3)), (cst (.int 0)), (cst (.int 4)), (bin (cst (.int 16)) (cst (.int 40)) (opI mulC (· * ·))), (un (bin (cst (.int 2)) (cst (.int 31)) (opI powC fun i j => i ^ j.toNat)) negO)])) addO)]))) (seqM (ifM (orM (notM (callM 3 F__law_right (argsM [(slot false 2), (slot false 4), (slot false 7)]))) (notM (callM 3 F__law_right (argsM [(slot false 2), (slot false 5), (slot false 7)]))))
  (seqM (retM (cst (.bl false))) skipM)
  skipM) skipM))) (seqM (parM 8 9 (argsM [(callM 2 F__law_heap (argsM [(slot false 2), (slot false 4)])), (tupM (argsM []))])) (seqM (forM (seqS (slot false 3)) (tgName 7)
  (seqM (setM 10 (callM 2 F_freed_by (argsM [(slot false 8), (slot false 7)]))) (seqM (ifM (bin (bin (slot true 10) (cst (.int 0)) ixO) (cst (.str "freed")) neO)
  (seqM (retM (cst (.bl false))) skipM)
  skipM) (seqM (parM 9 8 (argsM [(bin (slot true 9) (bin (slot true 10) (cst (.int 1)) ixO) addO), (bin (slot true 10) (cst (.int 2)) ixO)])) skipM)))) (seqM (ifM (orM (bin (slot true 8) (tupM (argsM [])) neO) (bin (appA (argsM [(slot true 9)]) sortedF) (appA (argsM [(slot true 2)]) sortedF) neO))
  (seqM (retM (cst (.bl false))) skipM)
  skipM) (seqM (setM 11 (tupM (argsM [(tupM (argsM [(cst (.int 16)), (cst (.int 1)), (cst (.str "fun")), (tupM (argsM [(cst (.int 56)), (cst (.int 40)), (cst (.int 7)), (cst (.int 56))]))])), (tupM (argsM [(cst (.int 40)), (cst (.int 2)), (cst (.str "link")), (tupM (argsM [(cst (.int 5)), (cst (.int 2))]))])), (tupM (argsM [(cst (.int 56)), (cst (.int 2)), (cst (.str "pair")), (tupM (argsM [(cst (.int 72)), (cst (.int 40))]))])), (tupM (argsM [(cst (.int 72)), (cst (.int 1)), (cst (.str "link")), (tupM (argsM [(cst (.int 3)), (cst (.int 2))]))]))]))) (seqM (ifM (orM (bin (callM 2 F_freed_by (argsM [(slot false 11), (cst (.int 16))])) (tupM (argsM [(cst (.str "freed")), (tupM (argsM [(cst (.int 16)), (cst (.int 56)), (cst (.int 72)), (cst (.int 40))])), (tupM (argsM []))])) neO) (bin (callM 2 F_freed_by (argsM [(escM (bin (sliceM (slot true 11) .no (.at_ (cst (.int 1)))) (sliceM (slot true 11) (.at_ (cst (.int 2))) .no) addO)), (cst (.int 16))])) (tupM (argsM [(cst (.str "broken")), (cst (.int 40))])) neO))
  (seqM (retM (cst (.bl false))) skipM)
  skipM) (seqM (ifM (bin (callM 2 F_freed_by (argsM [(slot false 11), (cst (.int 56))])) (tupM (argsM [(cst (.str "freed")), (tupM (argsM [])), (bin (bin (sliceM (slot true 11) .no (.at_ (cst (.int 2)))) (tupM (argsM [(tupM (argsM [(cst (.int 56)), (cst (.int 1)), (cst (.str "pair")), (tupM (argsM [(cst (.int 72)), (cst (.int 40))]))]))])) addO) (sliceM (slot true 11) (.at_ (cst (.int 3))) .no) addO)])) neO)
  (seqM (retM (cst (.bl false))) skipM)
  skipM) (seqM (setM 12 (tupM (argsM [(tupM (argsM [(cst (.int 16)), (cst (.int 2)), (cst (.str "link")), (tupM (argsM [(cst (.int 5)), (cst (.int 32))]))])), (tupM (argsM [(cst (.int 32)), (cst (.int 1)), (cst (.str "link")), (tupM (argsM [(cst (.int 7)), (cst (.int 16))]))]))]))) (seqM (ifM (orM (bin (callM 2 F_freed_by (argsM [(slot false 12), (cst (.int 16))])) (tupM (argsM [(cst (.str "freed")), (tupM (argsM [])), (tupM (argsM [(tupM (argsM [(cst (.int 16)), (cst (.int 1)), (cst (.str "link")), (tupM (argsM [(cst (.int 5)), (cst (.int 32))]))])), (tupM (argsM [(cst (.int 32)), (cst (.int 1)), (cst (.str "link")), (tupM (argsM [(cst (.int 7)), (cst (.int 16))]))]))]))])) neO) (bin (callM 2 F_freed_by (argsM [(slot false 12), (cst (.int 32))])) (tupM (argsM [(cst (.str "freed")), (tupM (argsM [(cst (.int 32))])), (tupM (argsM [(tupM (argsM [(cst (.int 16)), (cst (.int 1)), (cst (.str "link")), (tupM (argsM [(cst (.int 5)), (cst (.int 32))]))]))]))])) neO))
  (seqM (retM (cst (.bl false))) skipM)
  skipM) (seqM (setM 13 (tupM (argsM [(tupM (argsM [(cst (.int 16)), (cst (.int 1)), (cst (.str "link")), (tupM (argsM [(cst (.int 3)), (cst (.int 32))]))])), (tupM (argsM [(cst (.int 32)), (cst (.int 1)), (cst (.str "pair")), (tupM (argsM [(cst (.int 16)), (cst (.int 1))]))]))]))) (seqM (ifM (orM (bin (callM 2 F_freed_by (argsM [(slot false 13), (cst (.int 16))])) (tupM (argsM [(cst (.str "broken")), (cst (.int 16))])) neO) (orM (bin (callM 2 F_freed_by (argsM [(slot false 11), (cst (.int 5))])) (tupM (argsM [(cst (.str "freed")), (tupM (argsM [])), (slot false 11)])) neO) (bin (callM 2 F_freed_by (argsM [(tupM (argsM [])), (cst (.int 0))])) (tupM (argsM [(cst (.str "broken")), (cst (.int 0))])) neO)))
  (seqM (retM (cst (.bl false))) skipM)
  skipM) (seqM (setM 14 (lcM (seqS (lstM (argsM [(tupM (argsM [(cst .non), (cst .non)])), (tupM (argsM [(appA (argsM [(slot true 12)]) listF), (cst (.int 3))])), (tupM (argsM [(slot false 12), (cst .non)])), (tupM (argsM [(slot false 12), (bin (cst (.int 2)) (cst (.int 31)) (opI powC fun i j => i ^ j.toNat))])), (tupM (argsM [(slot false 12), (cst (.bl true))]))]))) [16] (tgName 16) yesM (escM (lamErrM sel__law_error ret__law_error (callM 2 F_freed_by (argsM [(bin (slot true 16) (cst (.int 0)) ixO), (bin (slot true 16) (cst (.int 1)) ixO)])))))) (seqM (retM (bin (slot true 14) (lstM (argsM [(cst (.str "heap")), (cst (.str "heap")), (cst (.str "word")), (cst (.str "word")), (cst (.str "word"))])) eqO)) skipM))))))))))))))))
abbrev F_law : FS := runF 17 m_law
theorem p_is_whole {w : World} {K : PySem.W.Frag} {mg : Str → Option Value} {base : Heap} {C : Cn} (L : Fx w K mg C) : DFn P w K mg base C 1 "is_whole" 3 F_is_whole := by
  obtain ⟨fd, F⟩ := L.d_is_whole
  have R := fn_dl (P := P) (w := w) (mg := mg) (base := base) (C := C) (k := 0) (n := 3) (N := ["value", "low", "high"]) (ps := ["value", "low", "high"]) (mb := m_is_whole) F (by decide +kernel) rfl fun cdv A outer s H E hr =>
    have o : XOk _ C E 0 := ⟨L.hK, L.hw, L.hmg, rfl, takes_of rfl rfl rfl rfl, hr, (by decide : List.Nodup (α := Str) ["value", "low", "high"])⟩
    (ss_cons (ds_ret (e_and (e_isi o L.n_isinstance L.n_int (e_slot 0)) (e_and (e_not (e_isi o L.n_isinstance L.n_bool (e_slot 0))) (de_one (e_chain op_le op_le cmpI_ok cmpI_ok (e_slot 1) (e_slot 0) (e_slot 2)))))) ss_nil)
  exact ⟨⟨_, fd, ["value", "low", "high"], R, L.g_is_whole, F.kp, F.bindsN fun _ _ _ _ _ _ us hl => match us, hl with | [_, _, _], _ => rfl⟩⟩
theorem p_is_tuple_of {w : World} {K : PySem.W.Frag} {mg : Str → Option Value} {base : Heap} {C : Cn} (L : Fx w K mg C) : DFn P w K mg base C 1 "is_tuple_of" 3 F_is_tuple_of := by
  obtain ⟨fd, F⟩ := L.d_is_tuple_of
  have R := fn_dl (P := P) (w := w) (mg := mg) (base := base) (C := C) (k := 0) (n := 3) (N := ["value", "low", "high"]) (ps := ["value", "low", "high"]) (mb := m_is_tuple_of) F (by decide +kernel) rfl fun cdv A outer s H E hr =>
    have o : XOk _ C E 0 := ⟨L.hK, L.hw, L.hmg, rfl, takes_of rfl rfl rfl rfl, hr, (by decide : List.Nodup (α := Str) ["value", "low", "high"])⟩
    (ss_cons (ds_ret (e_and (e_isi o L.n_isinstance L.n_tuple (e_slot 0)) (de_one (e_chain op_le op_le cmpI_ok cmpI_ok (e_slot 1) (e_bl (c_len o) lenF_ok L.n_len (b_cons (e_slot 0) db_nil)) (e_slot 2))))) ss_nil)
  exact ⟨⟨_, fd, ["value", "low", "high"], R, L.g_is_tuple_of, F.kp, F.bindsN fun _ _ _ _ _ _ us hl => match us, hl with | [_, _, _], _ => rfl⟩⟩
theorem p_is_word {w : World} {K : PySem.W.Frag} {mg : Str → Option Value} {base : Heap} {C : Cn} (L : Fx w K mg C) (f_is_whole : DFn P w K mg base C 1 "is_whole" 3 F_is_whole) : DFn P w K mg base C 2 "is_word" 1 F_is_word := by
  obtain ⟨fd, F⟩ := L.d_is_word
  have R := fn_dl (P := P) (w := w) (mg := mg) (base := base) (C := C) (k := 1) (n := 1) (N := ["value"]) (ps := ["value"]) (mb := m_is_word) F (by decide +kernel) rfl fun cdv A outer s H E hr =>
    have o : XOk _ C E 1 := ⟨L.hK, L.hw, L.hmg, rfl, takes_of rfl rfl rfl rfl, hr, (by decide : List.Nodup (α := Str) ["value"])⟩
    (ss_cons (ds_ret (e_call o f_is_whole (a_cons (e_slot 0) (a_cons (e_un un_neg negO_ok (e_glob L.k_HALF)) (a_cons (e_op op_sub opI0_ok (e_glob L.k_HALF) de_int) da_nil))))) ss_nil)
  exact ⟨⟨_, fd, ["value"], R, L.g_is_word, F.kp, F.bindsN fun _ _ _ _ _ _ us hl => match us, hl with | [_], _ => rfl⟩⟩
theorem p_points {w : World} {K : PySem.W.Frag} {mg : Str → Option Value} {base : Heap} {C : Cn} (L : Fx w K mg C) : DFn P w K mg base C 1 "points" 1 F_points := by
  obtain ⟨fd, F⟩ := L.d_points
  have R := fn_dl (P := P) (w := w) (mg := mg) (base := base) (C := C) (k := 0) (n := 1) (N := ["word"]) (ps := ["word"]) (mb := m_points) F (by decide +kernel) rfl fun cdv A outer s H E hr =>
    have o : XOk _ C E 0 := ⟨L.hK, L.hw, L.hmg, rfl, takes_of rfl rfl rfl rfl, hr, (by decide : List.Nodup (α := Str) ["word"])⟩
    (ss_cons (ds_ret (e_cmp (o_eq o) eqO_ok (e_op op_mod (opI_ok modC_ok) (e_slot 0) de_int) de_int)) ss_nil)
  exact ⟨⟨_, fd, ["word"], R, L.g_points, F.kp, F.bindsN fun _ _ _ _ _ _ us hl => match us, hl with | [_], _ => rfl⟩⟩
theorem p_fits_fields {w : World} {K : PySem.W.Frag} {mg : Str → Option Value} {base : Heap} {C : Cn} (L : Fx w K mg C) (f_is_tuple_of : DFn P w K mg base C 1 "is_tuple_of" 3 F_is_tuple_of) (f_is_word : DFn P w K mg base C 2 "is_word" 1 F_is_word) : DFn P w K mg base C 3 "fits_fields" 2 F_fits_fields := by
  obtain ⟨fd, F⟩ := L.d_fits_fields
  have R := fn_dl (P := P) (w := w) (mg := mg) (base := base) (C := C) (k := 2) (n := 2) (N := ["shape", "value", "low", "high", "own"]) (ps := ["shape", "value"]) (mb := m_fits_fields) F (by decide +kernel) rfl fun cdv A outer s H E hr =>
    have o : XOk _ C E 2 := ⟨L.hK, L.hw, L.hmg, rfl, takes_of rfl rfl rfl rfl, hr, (by decide : List.Nodup (α := Str) ["shape", "value", "low", "high", "own"])⟩
    (ss_cons (s_asg (e_ix o (e_glob L.k_WIDTHS) (e_slot 0)) (g_tup o (gs_cons (g_name o 2) (gs_cons (g_name o 3) pgs_nil))) (tg_tup rfl (tgs_cons tg_name (tgs_cons tg_name tgs_nil)))) (ss_cons (ds_ret (e_and (e_call o f_is_tuple_of (a_cons (e_slot 1) (a_cons (e_slot 2) (a_cons (e_slot 3) da_nil)))) (de_one (e_bl (c_all o) allF_ok L.n_all (b_cons (e_lc o [("own", 4)] (i_seqT o (e_slot 1)) (fun _ _ _ _ _ => (g_name o.blk 4)) (tw_name (by rfl)) (fun _ _ _ _ _ _ => dts_nil) (fun _ _ _ _ _ ob => (e_call ob f_is_word (a_cons (e_slot 4) da_nil)))) db_nil))))) ss_nil))
  exact ⟨⟨_, fd, ["shape", "value"], R, L.g_fits_fields, F.kp, F.bindsN fun _ _ _ _ _ _ us hl => match us, hl with | [_, _], _ => rfl⟩⟩
theorem p_fits_cell {w : World} {K : PySem.W.Frag} {mg : Str → Option Value} {base : Heap} {C : Cn} (L : Fx w K mg C) (f_fits_fields : DFn P w K mg base C 3 "fits_fields" 2 F_fits_fields) (f_is_tuple_of : DFn P w K mg base C 1 "is_tuple_of" 3 F_is_tuple_of) (f_is_whole : DFn P w K mg base C 1 "is_whole" 3 F_is_whole) (f_points : DFn P w K mg base C 1 "points" 1 F_points) : DFn P w K mg base C 4 "fits_cell" 1 F_fits_cell := by
  obtain ⟨fd, F⟩ := L.d_fits_cell
  have R := fn_dl (P := P) (w := w) (mg := mg) (base := base) (C := C) (k := 3) (n := 1) (N := ["value"]) (ps := ["value"]) (mb := m_fits_cell) F (by decide +kernel) rfl fun cdv A outer s H E hr =>
    have o : XOk _ C E 3 := ⟨L.hK, L.hw, L.hmg, rfl, takes_of rfl rfl rfl rfl, hr, (by decide : List.Nodup (α := Str) ["value"])⟩
    (ss_cons (ds_if (PW.pt (dw_or (dt_not (t_val (e_call o f_is_tuple_of (a_cons (e_slot 0) (a_cons de_int (a_cons de_int da_nil)))))) (dw_or (dt_not (t_val (e_call o f_is_whole (a_cons (e_ix o (e_slot 0) de_int) (a_cons (e_glob L.k_LEAST) (a_cons (e_op op_sub opI0_ok (e_glob L.k_HALF) de_int) da_nil)))))) (dw_or1 (dt_not (t_val (e_call o f_points (a_cons (e_ix o (e_slot 0) de_int) da_nil))))))))
  (ss_cons (ds_ret de_bl) ss_nil)
  ss_nil) (ss_cons (ds_if (PW.pt (dw_or (dt_not (t_val (e_call o f_is_whole (a_cons (e_ix o (e_slot 0) de_int) (a_cons de_int (a_cons (e_glob L.k_HOLDERS) da_nil)))))) (dw_or (dt_not (t_val (e_isi o L.n_isinstance L.n_str (e_ix o (e_slot 0) de_int)))) (dw_or1 (t_cmp (o_nin o) ninO_ok (e_ix o (e_slot 0) de_int) (e_glob L.k_WIDTHS))))))
  (ss_cons (ds_ret de_bl) ss_nil)
  ss_nil) (ss_cons (ds_ret (e_call o f_fits_fields (a_cons (e_ix o (e_slot 0) de_int) (a_cons (e_ix o (e_slot 0) de_int) da_nil)))) ss_nil)))
  exact ⟨⟨_, fd, ["value"], R, L.g_fits_cell, F.kp, F.bindsN fun _ _ _ _ _ _ us hl => match us, hl with | [_], _ => rfl⟩⟩
theorem p_end_of {w : World} {K : PySem.W.Frag} {mg : Str → Option Value} {base : Heap} {C : Cn} (L : Fx w K mg C) : DFn P w K mg base C 1 "end_of" 1 F_end_of := by
  obtain ⟨fd, F⟩ := L.d_end_of
  have R := fn_dl (P := P) (w := w) (mg := mg) (base := base) (C := C) (k := 0) (n := 1) (N := ["cell"]) (ps := ["cell"]) (mb := m_end_of) F (by decide +kernel) rfl fun cdv A outer s H E hr =>
    have o : XOk _ C E 0 := ⟨L.hK, L.hw, L.hmg, rfl, takes_of rfl rfl rfl rfl, hr, (by decide : List.Nodup (α := Str) ["cell"])⟩
    (ss_cons (ds_ret (e_op (o_add o) addO_ok (e_op (o_add o) addO_ok (e_ix o (e_slot 0) de_int) de_int) (e_op op_mul (opI_ok mulC_ok) de_int (e_bl (c_len o) lenF_ok L.n_len (b_cons (e_ix o (e_slot 0) de_int) db_nil))))) ss_nil)
  exact ⟨⟨_, fd, ["cell"], R, L.g_end_of, F.kp, F.bindsN fun _ _ _ _ _ _ us hl => match us, hl with | [_], _ => rfl⟩⟩
theorem p_fits_heap {w : World} {K : PySem.W.Frag} {mg : Str → Option Value} {base : Heap} {C : Cn} (L : Fx w K mg C) (f_end_of : DFn P w K mg base C 1 "end_of" 1 F_end_of) (f_fits_cell : DFn P w K mg base C 4 "fits_cell" 1 F_fits_cell) (f_is_tuple_of : DFn P w K mg base C 1 "is_tuple_of" 3 F_is_tuple_of) : DFn P w K mg base C 5 "fits_heap" 1 F_fits_heap := by
  obtain ⟨fd, F⟩ := L.d_fits_heap
  have R := fn_dl (P := P) (w := w) (mg := mg) (base := base) (C := C) (k := 4) (n := 1) (N := ["value", "own", "one", "other"]) (ps := ["value"]) (mb := m_fits_heap) F (by decide +kernel) rfl fun cdv A outer s H E hr =>
    have o : XOk _ C E 4 := ⟨L.hK, L.hw, L.hmg, rfl, takes_of rfl rfl rfl rfl, hr, (by decide : List.Nodup (α := Str) ["value", "own", "one", "other"])⟩
    (ss_cons (ds_if (PW.pt (dw_or (dt_not (t_val (e_call o f_is_tuple_of (a_cons (e_slot 0) (a_cons de_int (a_cons (e_glob L.k_CELLS) da_nil)))))) (dw_or1 (dt_not (t_val (e_bl (c_all o) allF_ok L.n_all (b_cons (e_lc o [("own", 1)] (i_seqT o (e_slot 0)) (fun _ _ _ _ _ => (g_name o.blk 1)) (tw_name (by rfl)) (fun _ _ _ _ _ _ => dts_nil) (fun _ _ _ _ _ ob => (e_call ob f_fits_cell (a_cons (e_slot 1) da_nil)))) db_nil)))))))
  (ss_cons (ds_ret de_bl) ss_nil)
  ss_nil) (ss_cons (ds_ret (e_bl (c_all o) allF_ok L.n_all (b_cons (e_lc o [("one", 2), ("other", 3)] (i_zipT o L.n_zip (b_cons (e_slot 0) (b_cons (e_slice o (e_slot 0) (.at_ de_int) .no) db_nil))) (fun _ _ _ _ _ => (g_tup o.blk (gs_cons (g_name o.blk 2) (gs_cons (g_name o.blk 3) pgs_nil)))) (tw_tup rfl (tws_cons (tw_name (by rfl)) (tws_cons (tw_name (by rfl)) tws_nil))) (fun _ _ _ _ _ _ => dts_nil) (fun _ _ _ _ _ ob => (e_cmp op_le cmpI_ok (e_call ob f_end_of (a_cons (e_slot 2) da_nil)) (e_ix ob (e_slot 3) de_int)))) db_nil))) ss_nil))
  exact ⟨⟨_, fd, ["value"], R, L.g_fits_heap, F.kp, F.bindsN fun _ _ _ _ _ _ us hl => match us, hl with | [_], _ => rfl⟩⟩
theorem p_cells_by {w : World} {K : PySem.W.Frag} {mg : Str → Option Value} {base : Heap} {C : Cn} (L : Fx w K mg C) : DFn P w K mg base C 1 "cells_by" 1 F_cells_by := by
  obtain ⟨fd, F⟩ := L.d_cells_by
  have R := fn_dl (P := P) (w := w) (mg := mg) (base := base) (C := C) (k := 0) (n := 1) (N := ["heap", "cell"]) (ps := ["heap"]) (mb := m_cells_by) F (by decide +kernel) rfl fun cdv A outer s H E hr =>
    have o : XOk _ C E 0 := ⟨L.hK, L.hw, L.hmg, rfl, takes_of rfl rfl rfl rfl, hr, (by decide : List.Nodup (α := Str) ["heap", "cell"])⟩
    (ss_cons (ds_ret (e_dc o [("cell", 1)] (i_seqT o (e_slot 0)) (fun _ _ _ _ _ => (g_name o.blk 1)) (tw_name (by rfl)) (fun _ _ _ _ _ _ => dts_nil) (fun _ _ _ _ _ ob => (e_ix ob (e_slot 1) de_int)) (fun _ _ _ _ _ ob => (e_slot 1)))) ss_nil)
  exact ⟨⟨_, fd, ["heap"], R, L.g_cells_by, F.kp, F.bindsN fun _ _ _ _ _ _ us hl => match us, hl with | [_], _ => rfl⟩⟩
theorem p_need_heap {w : World} {K : PySem.W.Frag} {mg : Str → Option Value} {base : Heap} {C : Cn} (L : Fx w K mg C) (f_fits_heap : DFn P w K mg base C 5 "fits_heap" 1 F_fits_heap) : DFn P w K mg base C 6 "need_heap" 1 F_need_heap := by
  obtain ⟨fd, F⟩ := L.d_need_heap
  have R := fn_dl (P := P) (w := w) (mg := mg) (base := base) (C := C) (k := 5) (n := 1) (N := ["value"]) (ps := ["value"]) (mb := m_need_heap) F (by decide +kernel) rfl fun cdv A outer s H E hr =>
    have o : XOk _ C E 5 := ⟨L.hK, L.hw, L.hmg, rfl, takes_of rfl rfl rfl rfl, hr, (by decide : List.Nodup (α := Str) ["value"])⟩
    (ss_cons (ds_if (dt_not (t_val (e_call o f_fits_heap (a_cons (e_slot 0) da_nil))))
  (ss_cons (s_raise o L.x_InvalidHeap) ss_nil)
  ss_nil) ss_nil)
  exact ⟨⟨_, fd, ["value"], R, L.g_need_heap, F.kp, F.bindsN fun _ _ _ _ _ _ us hl => match us, hl with | [_], _ => rfl⟩⟩
theorem p_need_words {w : World} {K : PySem.W.Frag} {mg : Str → Option Value} {base : Heap} {C : Cn} (L : Fx w K mg C) (f_is_word : DFn P w K mg base C 2 "is_word" 1 F_is_word) : DFn P w K mg base C 3 "need_words" 1 F_need_words := by
  obtain ⟨fd, F⟩ := L.d_need_words
  have R := fn_dl (P := P) (w := w) (mg := mg) (base := base) (C := C) (k := 2) (n := 1) (N := ["value"]) (ps := ["value"]) (mb := m_need_words) F (by decide +kernel) rfl fun cdv A outer s H E hr =>
    have o : XOk _ C E 2 := ⟨L.hK, L.hw, L.hmg, rfl, takes_of rfl rfl rfl rfl, hr, (by decide : List.Nodup (α := Str) ["value"])⟩
    (ss_cons (ds_if (dt_not (t_val (e_call o f_is_word (a_cons (e_slot 0) da_nil))))
  (ss_cons (s_raise o L.x_InvalidWord) ss_nil)
  ss_nil) ss_nil)
  exact ⟨⟨_, fd, ["value"], R, L.g_need_words, F.kp, F.bindsN fun _ _ _ _ _ _ us hl => match us, hl with | [_], _ => rfl⟩⟩
theorem p_Drop_init {w : World} {K : PySem.W.Frag} {mg : Str → Option Value} {base : Heap} {C : Cn} (L : Fx w K mg C) (f_cells_by : DFn P w K mg base C 1 "cells_by" 1 F_cells_by) : DMk P w K mg base C 2 "Drop" 1 F_Drop_init := by
  obtain ⟨fd, F⟩ := L.d_Drop_init
  have R := fn_dl (P := P) (w := w) (mg := mg) (base := base) (C := C) (k := 1) (n := 2) (N := ["self", "heap"]) (ps := ["self", "heap"]) (mb := m_Drop_init) F (by decide +kernel) rfl fun cdv A outer s H E hr =>
    have o : XOk _ C E 1 := ⟨L.hK, L.hw, L.hmg, rfl, takes_of rfl rfl rfl rfl, hr, (by decide : List.Nodup (α := Str) ["self", "heap"])⟩
    (ss_cons (s_putFld o L.at_Drop_cells (de_esc (e_call o f_cells_by (a_cons (e_slot 1) da_nil))) (e_slot 0)) (ss_cons (s_putFld o L.at_Drop_row (de_esc (de_lst da_nil)) (e_slot 0)) ss_nil))
  exact ⟨⟨_, _, fd, ["self", "heap"], R, L.hmg ▸ L.gc_Drop, L.gc_Drop, L.hK ▸ L.cl_Drop, L.mk_Drop, F.bindsN fun _ _ _ _ _ _ us hl => match us, hl with | [_, _], _ => rfl⟩⟩
theorem p_Drop_less {w : World} {K : PySem.W.Frag} {mg : Str → Option Value} {base : Heap} {C : Cn} (L : Fx w K mg C) : DMt P w K mg base C 1 "Drop" "less" 1 F_Drop_less := by
  obtain ⟨fd, F⟩ := L.d_Drop_less
  have R := fn_dl (P := P) (w := w) (mg := mg) (base := base) (C := C) (k := 0) (n := 2) (N := ["self", "word", "place", "many", "shape", "fields"]) (ps := ["self", "word"]) (mb := m_Drop_less) F (by decide +kernel) rfl fun cdv A outer s H E hr =>
    have o : XOk _ C E 0 := ⟨L.hK, L.hw, L.hmg, rfl, takes_of rfl rfl rfl rfl, hr, (by decide : List.Nodup (α := Str) ["self", "word", "place", "many", "shape", "fields"])⟩
    (ss_cons (ds_if (t_cmp (o_nin o) ninO_ok (e_slot 1) (e_fld o L.at_Drop_cells (e_slot 0)))
  (ss_cons (ds_ret de_bl) ss_nil)
  ss_nil) (ss_cons (s_asg (e_ix o (e_fld o L.at_Drop_cells (e_slot 0)) (e_slot 1)) (g_tup o (gs_cons (g_name o 2) (gs_cons (g_name o 3) (gs_cons (g_name o 4) (gs_cons (g_name o 5) pgs_nil))))) (tg_tup rfl (tgs_cons tg_name (tgs_cons tg_name (tgs_cons tg_name (tgs_cons tg_name tgs_nil)))))) (ss_cons (s_put o (de_tup (a_cons (e_slot 2) (a_cons (e_op op_sub opI0_ok (e_slot 3) de_int) (a_cons (e_slot 4) (a_cons (e_slot 5) da_nil))))) (e_fld o L.at_Drop_cells (e_slot 0)) (e_slot 1)) (ss_cons (ds_if (t_cmp (o_eq o) eqO_ok (e_slot 3) de_int)
  (ss_cons (s_expr (e_append o (e_fld o L.at_Drop_row (e_slot 0)) (b_cons (e_slot 1) db_nil))) ss_nil)
  ss_nil) (ss_cons (ds_ret de_bl) ss_nil)))))
  exact ⟨⟨_, _, fd, ["self", "word"], R, L.hmg ▸ L.gc_Drop, L.cl_Drop, L.m_Drop_less, F.bindsN fun _ _ _ _ _ _ us hl => match us, hl with | [_, _], _ => rfl⟩⟩
theorem p_Drop_first_broken {w : World} {K : PySem.W.Frag} {mg : Str → Option Value} {base : Heap} {C : Cn} (L : Fx w K mg C) (f_Drop_less : DMt P w K mg base C 1 "Drop" "less" 1 F_Drop_less) (f_points : DFn P w K mg base C 1 "points" 1 F_points) : DMt P w K mg base C 2 "Drop" "first_broken" 1 F_Drop_first_broken := by
  obtain ⟨fd, F⟩ := L.d_Drop_first_broken
  have R := fn_dl (P := P) (w := w) (mg := mg) (base := base) (C := C) (k := 1) (n := 2) (N := ["self", "words", "word"]) (ps := ["self", "words"]) (mb := m_Drop_first_broken) F (by decide +kernel) rfl fun cdv A outer s H E hr =>
    have o : XOk _ C E 1 := ⟨L.hK, L.hw, L.hmg, rfl, takes_of rfl rfl rfl rfl, hr, (by decide : List.Nodup (α := Str) ["self", "words", "word"])⟩
    (ss_cons (s_for o (passes_of rfl) (i_seqF o (e_slot 1)) (g_name o 2) tg_name
  (ss_cons (ds_if (PW.pt (dw_and (t_val (e_call o f_points (a_cons (e_slot 2) da_nil))) (dw_and1 (t_val (e_meth o f_Drop_less (e_slot 0) (a_cons (e_slot 2) da_nil))))))
  (ss_cons (s_retSlot 2) ss_nil)
  ss_nil) ss_nil)) (ss_cons (ds_ret de_non) ss_nil))
  exact ⟨⟨_, _, fd, ["self", "words"], R, L.hmg ▸ L.gc_Drop, L.cl_Drop, L.m_Drop_first_broken, F.bindsN fun _ _ _ _ _ _ us hl => match us, hl with | [_, _], _ => rfl⟩⟩
theorem p_Drop_heap {w : World} {K : PySem.W.Frag} {mg : Str → Option Value} {base : Heap} {C : Cn} (L : Fx w K mg C) : DMt P w K mg base C 1 "Drop" "heap" 0 F_Drop_heap := by
  obtain ⟨fd, F⟩ := L.d_Drop_heap
  have R := fn_dl (P := P) (w := w) (mg := mg) (base := base) (C := C) (k := 0) (n := 1) (N := ["self", "place"]) (ps := ["self"]) (mb := m_Drop_heap) F (by decide +kernel) rfl fun cdv A outer s H E hr =>
    have o : XOk _ C E 0 := ⟨L.hK, L.hw, L.hmg, rfl, takes_of rfl rfl rfl rfl, hr, (by decide : List.Nodup (α := Str) ["self", "place"])⟩
    (ss_cons (ds_ret (e_ty (c_tuple o) tupleF_ok L.n_tuple (b_cons (e_lc o [("place", 1)] (i_seqT o (e_bl (c_sorted o) sortedF_ok L.n_sorted (b_cons (e_fld o L.at_Drop_cells (e_slot 0)) db_nil))) (fun _ _ _ _ _ => (g_name o.blk 1)) (tw_name (by rfl)) (fun _ _ _ _ _ _ => dts_nil) (fun _ _ _ _ _ ob => (e_ix ob (e_fld ob L.at_Drop_cells (e_slot 0)) (e_slot 1)))) db_nil))) ss_nil)
  exact ⟨⟨_, _, fd, ["self"], R, L.hmg ▸ L.gc_Drop, L.cl_Drop, L.m_Drop_heap, F.bindsN fun _ _ _ _ _ _ us hl => match us, hl with | [_], _ => rfl⟩⟩
theorem p_freed_in {w : World} {K : PySem.W.Frag} {mg : Str → Option Value} {base : Heap} {C : Cn} (L : Fx w K mg C) (f_Drop_init : DMk P w K mg base C 2 "Drop" 1 F_Drop_init) (f_Drop_first_broken : DMt P w K mg base C 2 "Drop" "first_broken" 1 F_Drop_first_broken) (f_Drop_heap : DMt P w K mg base C 1 "Drop" "heap" 0 F_Drop_heap) : DFn P w K mg base C 4 "freed_in" 2 F_freed_in := by
  obtain ⟨fd, F⟩ := L.d_freed_in
  have R := fn_dl (P := P) (w := w) (mg := mg) (base := base) (C := C) (k := 3) (n := 2) (N := ["heap", "word", "drop", "freed", "broken", "place"]) (ps := ["heap", "word"]) (mb := m_freed_in) F (by decide +kernel) rfl fun cdv A outer s H E hr =>
    have o : XOk _ C E 3 := ⟨L.hK, L.hw, L.hmg, rfl, takes_of rfl rfl rfl rfl, hr, (by decide : List.Nodup (α := Str) ["heap", "word", "drop", "freed", "broken", "place"])⟩
    (ss_cons (s_par o 2 3 (a_cons (e_make o f_Drop_init (a_cons (e_slot 0) da_nil)) (a_cons (de_lst da_nil) da_nil))) (ss_cons (s_set o 4 (e_meth o f_Drop_first_broken (e_slot 2) (a_cons (de_esc (de_lst (a_cons (e_slot 1) da_nil))) da_nil))) (ss_cons (ds_while (passes_of rfl) (PW.pt (dw_and (t_cmp op_isM isO_ok (e_slot 4) de_non) (dw_and1 (t_cmp op_lt cmpI_ok (e_bl (c_len o) lenF_ok L.n_len (b_cons (e_slot 3) db_nil)) (e_bl (c_len o) lenF_ok L.n_len (b_cons (e_fld o L.at_Drop_row (e_slot 2)) db_nil))))))
  (ss_cons (s_set o 5 (e_ix o (e_fld o L.at_Drop_row (e_slot 2)) (e_bl (c_len o) lenF_ok L.n_len (b_cons (e_slot 3) db_nil)))) (ss_cons (s_set o 4 (e_meth o f_Drop_first_broken (e_slot 2) (a_cons (e_ix o (e_ix o (e_fld o L.at_Drop_cells (e_slot 2)) (e_slot 5)) de_int) da_nil))) (ss_cons (s_expr (e_dpop2 m2_of (e_fld o L.at_Drop_cells (e_slot 2)) (e_slot 5) de_non)) (ss_cons (s_appendOwn o 3 (e_slot 5)) ss_nil))))) (ss_cons (ds_ret (de_ite (t_cmp op_notM isnO_ok (e_slot 4) de_non) (de_tup (a_cons de_str (a_cons (e_slot 4) da_nil))) (de_tup (a_cons de_str (a_cons (e_ty (c_tuple o) tupleF_ok L.n_tuple (b_cons (e_slot 3) db_nil)) (a_cons (e_meth0 o f_Drop_heap (e_slot 2)) da_nil)))))) ss_nil))))
  exact ⟨⟨_, fd, ["heap", "word"], R, L.g_freed_in, F.kp, F.bindsN fun _ _ _ _ _ _ us hl => match us, hl with | [_, _], _ => rfl⟩⟩
theorem p_freed_by {w : World} {K : PySem.W.Frag} {mg : Str → Option Value} {base : Heap} {C : Cn} (L : Fx w K mg C) (f_freed_in : DFn P w K mg base C 4 "freed_in" 2 F_freed_in) (f_need_heap : DFn P w K mg base C 6 "need_heap" 1 F_need_heap) (f_need_words : DFn P w K mg base C 3 "need_words" 1 F_need_words) : DFn P w K mg base C 7 "freed_by" 2 F_freed_by := by
  obtain ⟨fd, F⟩ := L.d_freed_by
  have R := fn_dl (P := P) (w := w) (mg := mg) (base := base) (C := C) (k := 6) (n := 2) (N := ["heap", "word"]) (ps := ["heap", "word"]) (mb := m_freed_by) F (by decide +kernel) rfl fun cdv A outer s H E hr =>
    have o : XOk _ C E 6 := ⟨L.hK, L.hw, L.hmg, rfl, takes_of rfl rfl rfl rfl, hr, (by decide : List.Nodup (α := Str) ["heap", "word"])⟩
    (ss_cons (s_expr (e_call o f_need_heap (a_cons (e_slot 0) da_nil))) (ss_cons (s_expr (e_call o f_need_words (a_cons (e_slot 1) da_nil))) (ss_cons (ds_ret (e_call o f_freed_in (a_cons (e_slot 0) (a_cons (e_slot 1) da_nil)))) ss_nil)))
  exact ⟨⟨_, fd, ["heap", "word"], R, L.g_freed_by, F.kp, F.bindsN fun _ _ _ _ _ _ us hl => match us, hl with | [_, _], _ => rfl⟩⟩
theorem p__law_cup {w : World} {K : PySem.W.Frag} {mg : Str → Option Value} {base : Heap} {C : Cn} (L : Fx w K mg C) : DFn P w K mg base C 1 "_law_cup" 1 F__law_cup := by
  obtain ⟨fd, F⟩ := L.d__law_cup
  have R := fn_dl (P := P) (w := w) (mg := mg) (base := base) (C := C) (k := 0) (n := 1) (N := ["script", "cell"]) (ps := ["script"]) (mb := m__law_cup) F (by decide +kernel) rfl fun cdv A outer s H E hr =>
    have o : XOk _ C E 0 := ⟨L.hK, L.hw, L.hmg, rfl, takes_of rfl rfl rfl rfl, hr, (by decide : List.Nodup (α := Str) ["script", "cell"])⟩
    (ss_cons (s_set o 1 (e_bl call_abs absF_ok L.n_abs (b_cons (e_ix o (e_op (o_add o) addO_ok (e_ty (c_list o) listF_ok L.n_list (b_cons (e_slot 0) db_nil)) (de_lst (a_cons de_int da_nil))) de_int) db_nil))) (ss_cons (ds_ret (de_lst (a_cons (de_ite (t_cmp op_ge cmpI_ok (e_slot 1) (e_op op_pow (opI_ok powC_ok) de_int de_int)) (e_op op_fdiv (opI_ok divC_ok) (e_slot 1) de_int) de_int) (a_cons (e_op (o_add o) addO_ok (e_op op_mod (opI_ok modC_ok) (e_ty call_int1 intF_ok L.n_int (b_cons (e_op (o_add o) addO_ok (e_op op_mul (opI_ok mulC_ok) (e_slot 1) de_int) de_int) db_nil)) de_int) de_int) da_nil)))) ss_nil))
  exact ⟨⟨_, fd, ["script"], R, L.g__law_cup, F.kp, F.bindsN fun _ _ _ _ _ _ us hl => match us, hl with | [_], _ => rfl⟩⟩
theorem p__law_roll {w : World} {K : PySem.W.Frag} {mg : Str → Option Value} {base : Heap} {C : Cn} (L : Fx w K mg C) : DFn P w K mg base C 1 "_law_roll" 2 F__law_roll := by
  obtain ⟨fd, F⟩ := L.d__law_roll
  have R := fn_dl (P := P) (w := w) (mg := mg) (base := base) (C := C) (k := 0) (n := 2) (N := ["cup", "many", "found", "deep"]) (ps := ["cup", "many"]) (mb := m__law_roll) F (by decide +kernel) rfl fun cdv A outer s H E hr =>
    have o : XOk _ C E 0 := ⟨L.hK, L.hw, L.hmg, rfl, takes_of rfl rfl rfl rfl, hr, (by decide : List.Nodup (α := Str) ["cup", "many", "found", "deep"])⟩
    (ss_cons (ds_if (t_cmp op_gt cmpI_ok (e_ix o (e_slot 0) de_int) de_int)
  (ss_cons (s_set o 2 (e_op op_mod (opI_ok modC_ok) (e_ty call_int1 intF_ok L.n_int (b_cons (e_ix o (e_slot 0) de_int) db_nil)) (e_slot 1))) (ss_cons (s_put o (e_op op_fdiv (opI_ok divC_ok) (e_ix o (e_slot 0) de_int) (e_slot 1)) (e_slot 0) de_int) (ss_cons (s_retSlot 2) ss_nil)))
  ss_nil) (ss_cons (s_put o (e_op op_mod (opI_ok modC_ok) (e_ty call_int1 intF_ok L.n_int (b_cons (e_op (o_add o) addO_ok (e_op op_mul (opI_ok mulC_ok) (e_ix o (e_slot 0) de_int) de_int) de_int) db_nil)) de_int) (e_slot 0) de_int) (ss_cons (s_set o 3 (e_op op_mod (opI_ok modC_ok) (e_ty call_int1 intF_ok L.n_int (b_cons (e_op op_mul (opI_ok mulC_ok) (e_ix o (e_slot 0) de_int) (e_op (o_add o) addO_ok (e_ix o (e_slot 0) de_int) de_int)) db_nil)) de_int)) (ss_cons (ds_ret (e_op op_mod (opI_ok modC_ok) (e_ty call_int1 intF_ok L.n_int (b_cons (e_op op_fdiv (opI_ok divC_ok) (e_slot 3) de_int) db_nil)) (e_slot 1))) ss_nil))))
  exact ⟨⟨_, fd, ["cup", "many"], R, L.g__law_roll, F.kp, F.bindsN fun _ _ _ _ _ _ us hl => match us, hl with | [_, _], _ => rfl⟩⟩
theorem p__law_some {w : World} {K : PySem.W.Frag} {mg : Str → Option Value} {base : Heap} {C : Cn} (L : Fx w K mg C) (f__law_roll : DFn P w K mg base C 1 "_law_roll" 2 F__law_roll) : DFn P w K mg base C 2 "_law_some" 2 F__law_some := by
  obtain ⟨fd, F⟩ := L.d__law_some
  have R := fn_dl (P := P) (w := w) (mg := mg) (base := base) (C := C) (k := 1) (n := 2) (N := ["cup", "things"]) (ps := ["cup", "things"]) (mb := m__law_some) F (by decide +kernel) rfl fun cdv A outer s H E hr =>
    have o : XOk _ C E 1 := ⟨L.hK, L.hw, L.hmg, rfl, takes_of rfl rfl rfl rfl, hr, (by decide : List.Nodup (α := Str) ["cup", "things"])⟩
    (ss_cons (ds_ret (e_ix o (e_slot 1) (e_call o f__law_roll (a_cons (e_slot 0) (a_cons (e_bl (c_len o) lenF_ok L.n_len (b_cons (e_slot 1) db_nil)) da_nil))))) ss_nil)
  exact ⟨⟨_, fd, ["cup", "things"], R, L.g__law_some, F.kp, F.bindsN fun _ _ _ _ _ _ us hl => match us, hl with | [_, _], _ => rfl⟩⟩
theorem p__law_spots {w : World} {K : PySem.W.Frag} {mg : Str → Option Value} {base : Heap} {C : Cn} (L : Fx w K mg C) (f__law_roll : DFn P w K mg base C 1 "_law_roll" 2 F__law_roll) : DFn P w K mg base C 2 "_law_spots" 1 F__law_spots := by
  obtain ⟨fd, F⟩ := L.d__law_spots
  have R := fn_dl (P := P) (w := w) (mg := mg) (base := base) (C := C) (k := 1) (n := 1) (N := ["cup", "left", "found", "at"]) (ps := ["cup"]) (mb := m__law_spots) F (by decide +kernel) rfl fun cdv A outer s H E hr =>
    have o : XOk _ C E 1 := ⟨L.hK, L.hw, L.hmg, rfl, takes_of rfl rfl rfl rfl, hr, (by decide : List.Nodup (α := Str) ["cup", "left", "found", "at"])⟩
    (ss_cons (s_par o 1 2 (a_cons (de_esc (e_lc o [("at", 3)] (i_range1 L.n_range (b_cons de_int db_nil)) (fun _ _ _ _ _ => (g_name o.blk 3)) (tw_name (by rfl)) (fun _ _ _ _ _ _ => dts_nil) (fun _ _ _ _ _ ob => (e_op (o_add ob) addO_ok de_int (e_op op_mul (opI_ok mulC_ok) de_int (e_slot 3)))))) (a_cons (de_lst da_nil) da_nil))) (ss_cons (ds_while (passes_of rfl) (t_cmp (o_ne o) neO_ok (e_slot 1) (de_lst da_nil))
  (ss_cons (s_appendOwn o 2 (e_pop1 o (e_slot 1) (b_cons (e_call o f__law_roll (a_cons (e_slot 0) (a_cons (e_bl (c_len o) lenF_ok L.n_len (b_cons (e_slot 1) db_nil)) da_nil))) db_nil))) ss_nil)) (ss_cons (s_retSlot 2) ss_nil)))
  exact ⟨⟨_, fd, ["cup"], R, L.g__law_spots, F.kp, F.bindsN fun _ _ _ _ _ _ us hl => match us, hl with | [_], _ => rfl⟩⟩
theorem p__law_count {w : World} {K : PySem.W.Frag} {mg : Str → Option Value} {base : Heap} {C : Cn} (L : Fx w K mg C) : DFn P w K mg base C 1 "_law_count" 2 F__law_count := by
  obtain ⟨fd, F⟩ := L.d__law_count
  have R := fn_dl (P := P) (w := w) (mg := mg) (base := base) (C := C) (k := 0) (n := 2) (N := ["cells", "held", "found", "words", "place", "word"]) (ps := ["cells", "held"]) (mb := m__law_count) F (by decide +kernel) rfl fun cdv A outer s H E hr =>
    have o : XOk _ C E 0 := ⟨L.hK, L.hw, L.hmg, rfl, takes_of rfl rfl rfl rfl, hr, (by decide : List.Nodup (α := Str) ["cells", "held", "found", "words", "place", "word"])⟩
    (ss_cons (s_set o 2 (e_ty (c_dict o) dictF_ok L.n_dict (b_cons (de_lock (e_lc o [("place", 4)] (i_dict (e_slot 0)) (fun _ _ _ _ _ => (g_name o.blk 4)) (tw_name (by rfl)) (fun _ _ _ _ _ _ => dts_nil) (fun _ _ _ _ _ ob => (de_tup (a_cons (e_slot 4) (a_cons de_int da_nil)))))) db_nil))) (ss_cons (s_set o 3 (de_esc (e_ty (c_list o) listF_ok L.n_list (b_cons (e_slot 1) db_nil)))) (ss_cons (ds_lock (s_for o (passes_of rfl) (i_dict (e_slot 0)) (g_name o 4) tg_name
  (ss_cons (s_set o 3 (de_esc (e_op (o_add o) addO_ok (e_slot 3) (e_ty (c_list o) listF_ok L.n_list (b_cons (e_ix o (e_ix o (e_slot 0) (e_slot 4)) de_int) db_nil))))) ss_nil))) (ss_cons (s_for o (passes_of rfl) (i_seqF o (e_slot 3)) (g_name o 5) tg_name
  (ss_cons (ds_if (t_cmp (o_in o) inO_ok (e_slot 5) (e_slot 2))
  (ss_cons (s_putOwn o 2 (e_op (o_add o) addO_ok (e_ix o (e_slot 2) (e_slot 5)) de_int) (e_slot 5)) ss_nil)
  ss_nil) ss_nil)) (ss_cons (s_retSlot 2) ss_nil)))))
  exact ⟨⟨_, fd, ["cells", "held"], R, L.g__law_count, F.kp, F.bindsN fun _ _ _ _ _ _ us hl => match us, hl with | [_, _], _ => rfl⟩⟩
theorem p__law_heap {w : World} {K : PySem.W.Frag} {mg : Str → Option Value} {base : Heap} {C : Cn} (L : Fx w K mg C) : DFn P w K mg base C 1 "_law_heap" 2 F__law_heap := by
  obtain ⟨fd, F⟩ := L.d__law_heap
  have R := fn_dl (P := P) (w := w) (mg := mg) (base := base) (C := C) (k := 0) (n := 2) (N := ["cells", "counts", "place"]) (ps := ["cells", "counts"]) (mb := m__law_heap) F (by decide +kernel) rfl fun cdv A outer s H E hr =>
    have o : XOk _ C E 0 := ⟨L.hK, L.hw, L.hmg, rfl, takes_of rfl rfl rfl rfl, hr, (by decide : List.Nodup (α := Str) ["cells", "counts", "place"])⟩
    (ss_cons (ds_ret (e_ty (c_tuple o) tupleF_ok L.n_tuple (b_cons (e_lc o [("place", 2)] (i_seqT o (e_bl (c_sorted o) sortedF_ok L.n_sorted (b_cons (e_slot 0) db_nil))) (fun _ _ _ _ _ => (g_name o.blk 2)) (tw_name (by rfl)) (fun _ _ _ _ _ _ => dts_nil) (fun _ _ _ _ _ ob => (de_tup (a_cons (e_slot 2) (a_cons (e_ix ob (e_slot 1) (e_slot 2)) (a_cons (e_ix ob (e_ix ob (e_slot 0) (e_slot 2)) de_int) (a_cons (e_ty (c_tuple ob) tupleF_ok L.n_tuple (b_cons (e_ix ob (e_ix ob (e_slot 0) (e_slot 2)) de_int) db_nil)) da_nil))))))) db_nil))) ss_nil)
  exact ⟨⟨_, fd, ["cells", "counts"], R, L.g__law_heap, F.kp, F.bindsN fun _ _ _ _ _ _ us hl => match us, hl with | [_, _], _ => rfl⟩⟩
theorem p__law_shared {w : World} {K : PySem.W.Frag} {mg : Str → Option Value} {base : Heap} {C : Cn} (L : Fx w K mg C) (f__law_count : DFn P w K mg base C 1 "_law_count" 2 F__law_count) (f__law_roll : DFn P w K mg base C 1 "_law_roll" 2 F__law_roll) (f__law_some : DFn P w K mg base C 2 "_law_some" 2 F__law_some) (f__law_spots : DFn P w K mg base C 2 "_law_spots" 1 F__law_spots) : DFn P w K mg base C 3 "_law_shared" 2 F__law_shared := by
  obtain ⟨fd, F⟩ := L.d__law_shared
  have R := fn_dl (P := P) (w := w) (mg := mg) (base := base) (C := C) (k := 2) (n := 2) (N := ["cup", "many", "spots", "cells", "words", "turn", "shape", "place", "size", "counts", "held", "at"]) (ps := ["cup", "many"]) (mb := m__law_shared) F (by decide +kernel) rfl fun cdv A outer s H E hr =>
    have o : XOk _ C E 2 := ⟨L.hK, L.hw, L.hmg, rfl, takes_of rfl rfl rfl rfl, hr, (by decide : List.Nodup (α := Str) ["cup", "many", "spots", "cells", "words", "turn", "shape", "place", "size", "counts", "held", "at"])⟩
    (ss_cons (s_asg (de_tup (a_cons (e_call o f__law_spots (a_cons (e_slot 0) da_nil)) (a_cons de_dict0 (a_cons (de_lst (a_cons de_int (a_cons de_int (a_cons de_int (a_cons de_int (a_cons (e_un un_neg negO_ok de_int) da_nil)))))) da_nil)))) (g_tup o (gs_cons (g_name o 2) (gs_cons (g_name o 3) (gs_cons (g_name o 4) pgs_nil)))) (tg_tup rfl (tgs_cons tg_name (tgs_cons tg_name (tgs_cons tg_name tgs_nil))))) (ss_cons (s_for o (passes_of rfl) (i_range1 L.n_range (b_cons (e_slot 1) db_nil)) (g_name o 5) tg_name
  (ss_cons (s_set o 6 (e_call o f__law_some (a_cons (e_slot 0) (a_cons (de_lst (a_cons de_str (a_cons de_str (a_cons de_str (a_cons de_str da_nil))))) da_nil)))) (ss_cons (s_par o 7 8 (a_cons (e_pop1 o (e_slot 2) (b_cons de_int db_nil)) (a_cons de_int da_nil))) (ss_cons (s_put o (de_esc (de_lst (a_cons (e_slot 6) (a_cons (e_lc o [("at", 11)] (i_range1 L.n_range (b_cons (e_slot 8) db_nil)) (fun _ _ _ _ _ => (g_name o.blk 11)) (tw_name (by rfl)) (fun _ _ _ _ _ _ => dts_nil) (fun _ _ _ _ _ ob => (e_call ob f__law_some (a_cons (e_slot 0) (a_cons (e_op (o_add ob) addO_ok (e_slice ob (e_slot 4) (.at_ (e_un un_neg negO_ok de_int)) .no) (e_slot 4)) da_nil))))) da_nil)))) (e_slot 3) (e_slot 7)) (ss_cons (s_expr (e_append o (e_slot 4) (b_cons (e_slot 7) db_nil))) ss_nil))))) (ss_cons (s_set o 9 (de_esc (e_call o f__law_count (a_cons (e_slot 3) (a_cons (de_tup da_nil) da_nil))))) (ss_cons (s_setLcE o 10 [("place", 7)] (i_seqT o (e_bl (c_sorted o) sortedF_ok L.n_sorted (b_cons (e_slot 3) db_nil))) (fun _ _ _ _ _ => (g_name o.blk 7)) (tw_name (by rfl)) (fun _ _ _ _ _ ob => dts_one (t_cmp (o_eq ob) eqO_ok (e_ix ob (e_slot 9) (e_slot 7)) de_int)) (fun _ _ _ _ _ ob => (e_slot 7))) (ss_cons (s_for o (passes_of rfl) (i_range1 L.n_range (b_cons (e_call o f__law_roll (a_cons (e_slot 0) (a_cons de_int da_nil))) db_nil)) (g_name o 5) tg_name
  (ss_cons (s_expr (e_append o (e_slot 10) (b_cons (e_call o f__law_some (a_cons (e_slot 0) (a_cons (e_slot 4) da_nil))) db_nil))) ss_nil)) (ss_cons (ds_ret (de_tup (a_cons (e_slot 3) (a_cons (e_ty (c_tuple o) tupleF_ok L.n_tuple (b_cons (e_slot 10) db_nil)) da_nil)))) ss_nil))))))
  exact ⟨⟨_, fd, ["cup", "many"], R, L.g__law_shared, F.kp, F.bindsN fun _ _ _ _ _ _ us hl => match us, hl with | [_, _], _ => rfl⟩⟩
theorem p__law_drop {w : World} {K : PySem.W.Frag} {mg : Str → Option Value} {base : Heap} {C : Cn} (L : Fx w K mg C) : DFn P w K mg base C 1 "_law_drop" 3 F__law_drop := by
  obtain ⟨fd, F⟩ := L.d__law_drop
  have R := fn_dl (P := P) (w := w) (mg := mg) (base := base) (C := C) (k := 0) (n := 3) (N := ["cells", "counts", "word", "row", "freed", "line", "own"]) (ps := ["cells", "counts", "word"]) (mb := m__law_drop) F (by decide +kernel) rfl fun cdv A outer s H E hr =>
    have o : XOk _ C E 0 := ⟨L.hK, L.hw, L.hmg, rfl, takes_of rfl rfl rfl rfl, hr, (by decide : List.Nodup (α := Str) ["cells", "counts", "word", "row", "freed", "line", "own"])⟩
    (ss_cons (s_par o 3 4 (a_cons (de_lst da_nil) (a_cons (de_lst da_nil) da_nil))) (ss_cons (s_set o 5 (de_esc (de_lst (a_cons (e_slot 2) da_nil)))) (ss_cons (ds_while (passes_of rfl) (t_val de_bl)
  (ss_cons (s_for o (passes_of rfl) (i_seqF o (e_slot 5)) (g_name o 6) tg_name
  (ss_cons (ds_if (t_cmp (o_eq o) eqO_ok (e_op op_mod (opI_ok modC_ok) (e_ty call_int1 intF_ok L.n_int (b_cons (e_slot 6) db_nil)) de_int) de_int)
  (ss_cons (ds_if (t_cmp (o_nin o) ninO_ok (e_slot 6) (e_slot 0))
  (ss_cons (ds_ret (de_tup (a_cons de_str (a_cons (e_slot 6) da_nil)))) ss_nil)
  ss_nil) (ss_cons (s_put o (e_op op_sub opI0_ok (e_ix o (e_slot 1) (e_slot 6)) de_int) (e_slot 1) (e_slot 6)) (ss_cons (ds_if (t_cmp (o_eq o) eqO_ok (e_ix o (e_slot 1) (e_slot 6)) de_int)
  (ss_cons (s_appendOwn o 3 (e_slot 6)) ss_nil)
  ss_nil) ss_nil)))
  ss_nil) ss_nil)) (ss_cons (ds_if (t_cmp (o_ne o) neO_ok (e_slot 4) (de_lst da_nil))
  (ss_cons (s_expr (e_dpop1 m1_of (e_slot 0) (e_ix o (e_slot 4) (e_un un_neg negO_ok de_int)))) ss_nil)
  ss_nil) (ss_cons (ds_if (t_cmp (o_eq o) eqO_ok (e_bl (c_len o) lenF_ok L.n_len (b_cons (e_slot 4) db_nil)) (e_bl (c_len o) lenF_ok L.n_len (b_cons (e_slot 3) db_nil)))
  (ss_cons (ds_ret (de_tup (a_cons de_str (a_cons (e_ty (c_tuple o) tupleF_ok L.n_tuple (b_cons (e_slot 4) db_nil)) da_nil)))) ss_nil)
  ss_nil) (ss_cons (s_appendOwn o 4 (e_ix o (e_slot 3) (e_bl (c_len o) lenF_ok L.n_len (b_cons (e_slot 4) db_nil)))) (ss_cons (s_set o 5 (de_esc (e_ty (c_list o) listF_ok L.n_list (b_cons (e_ix o (e_ix o (e_slot 0) (e_ix o (e_slot 4) (e_un un_neg negO_ok de_int))) de_int) db_nil)))) ss_nil)))))) ss_nil)))
  exact ⟨⟨_, fd, ["cells", "counts", "word"], R, L.g__law_drop, F.kp, F.bindsN fun _ _ _ _ _ _ us hl => match us, hl with | [_, _, _], _ => rfl⟩⟩
theorem p__law_right {w : World} {K : PySem.W.Frag} {mg : Str → Option Value} {base : Heap} {C : Cn} (L : Fx w K mg C) (f__law_drop : DFn P w K mg base C 1 "_law_drop" 3 F__law_drop) (f__law_heap : DFn P w K mg base C 1 "_law_heap" 2 F__law_heap) (f_freed_by : DFn P w K mg base C 7 "freed_by" 2 F_freed_by) : DFn P w K mg base C 8 "_law_right" 3 F__law_right := by
  obtain ⟨fd, F⟩ := L.d__law_right
  have R := fn_dl (P := P) (w := w) (mg := mg) (base := base) (C := C) (k := 7) (n := 3) (N := ["cells", "counts", "word", "told", "left", "many", "due", "place"]) (ps := ["cells", "counts", "word"]) (mb := m__law_right) F (by decide +kernel) rfl fun cdv A outer s H E hr =>
    have o : XOk _ C E 7 := ⟨L.hK, L.hw, L.hmg, rfl, takes_of rfl rfl rfl rfl, hr, (by decide : List.Nodup (α := Str) ["cells", "counts", "word", "told", "left", "many", "due", "place"])⟩
    (ss_cons (s_set o 3 (e_call o f_freed_by (a_cons (e_call o f__law_heap (a_cons (e_slot 0) (a_cons (e_slot 1) da_nil))) (a_cons (e_slot 2) da_nil)))) (ss_cons (s_par o 4 5 (a_cons (de_esc (e_ty (c_dict o) dictF_ok L.n_dict (b_cons (de_lock (e_lc o [("place", 7)] (i_dict (e_slot 0)) (fun _ _ _ _ _ => (g_name o.blk 7)) (tw_name (by rfl)) (fun _ _ _ _ _ _ => dts_nil) (fun _ _ _ _ _ ob => (de_tup (a_cons (e_slot 7) (a_cons (e_ix ob (e_slot 0) (e_slot 7)) da_nil)))))) db_nil))) (a_cons (de_esc (e_ty (c_dict o) dictF_ok L.n_dict (b_cons (de_lock (e_lc o [("place", 7)] (i_dict (e_slot 1)) (fun _ _ _ _ _ => (g_name o.blk 7)) (tw_name (by rfl)) (fun _ _ _ _ _ _ => dts_nil) (fun _ _ _ _ _ ob => (de_tup (a_cons (e_slot 7) (a_cons (e_ix ob (e_slot 1) (e_slot 7)) da_nil)))))) db_nil))) da_nil))) (ss_cons (s_set o 6 (e_call o f__law_drop (a_cons (e_slot 4) (a_cons (e_slot 5) (a_cons (e_slot 2) da_nil))))) (ss_cons (ds_if (t_cmp (o_eq o) eqO_ok (e_ix o (e_slot 6) de_int) de_str)
  (ss_cons (ds_ret (e_cmp (o_eq o) eqO_ok (e_slot 3) (e_slot 6))) ss_nil)
  ss_nil) (ss_cons (ds_ret (e_cmp (o_eq o) eqO_ok (e_slot 3) (e_op (o_add o) addO_ok (e_slot 6) (de_tup (a_cons (e_call o f__law_heap (a_cons (e_slot 4) (a_cons (e_slot 5) da_nil))) da_nil))))) ss_nil)))))
  exact ⟨⟨_, fd, ["cells", "counts", "word"], R, L.g__law_right, F.kp, F.bindsN fun _ _ _ _ _ _ us hl => match us, hl with | [_, _, _], _ => rfl⟩⟩
theorem p_law {w : World} {K : PySem.W.Frag} {mg : Str → Option Value} {base : Heap} {C : Cn} (L : Fx w K mg C) (f__law_count : DFn P w K mg base C 1 "_law_count" 2 F__law_count) (f__law_cup : DFn P w K mg base C 1 "_law_cup" 1 F__law_cup) (f__law_heap : DFn P w K mg base C 1 "_law_heap" 2 F__law_heap) (f__law_right : DFn P w K mg base C 8 "_law_right" 3 F__law_right) (f__law_roll : DFn P w K mg base C 1 "_law_roll" 2 F__law_roll) (f__law_shared : DFn P w K mg base C 3 "_law_shared" 2 F__law_shared) (f__law_some : DFn P w K mg base C 2 "_law_some" 2 F__law_some) (f_freed_by : DFn P w K mg base C 7 "freed_by" 2 F_freed_by) (TB : LamX.TabB base mg (He.cT K ("law", none)).1 (He.cT K ("law", none)).2) {fd : FuncData} (F : FunD K "law" "law" (defArgs (top 40)) (defBody (top 40)) (defScope (top 40)) [] [] (He.fAd K ("law", none)) fd) : FnOk P w K mg base (L2.CX P w) 12 (He.fAd K ("law", none)) fd ["script"] (spF C 1 F_law) :=
  fn_dlC (P := P) (w := w) (mg := mg) (base := base) (C := C) (k := 11) (n := 1) (N := ["script", "cup", "cells", "held", "counts", "few", "turn", "word", "left", "freed", "told", "tree", "ring", "twice", "words", "place", "odd"]) (ps := ["script"]) (mb := m_law) (pp := ("law", none)) F (by decide +kernel) rfl fun cdv A outer s H E hc hr =>
    have o : XOk _ C E 11 := ⟨L.hK, L.hw, L.hmg, rfl, takes_of rfl rfl rfl rfl, hr, (by decide : List.Nodup (α := Str) ["script", "cup", "cells", "held", "counts", "few", "turn", "word", "left", "freed", "told", "tree", "ring", "twice", "words", "place", "odd"])⟩
    (ss_cons (s_set o 1 (de_esc (e_call o f__law_cup (a_cons (e_slot 0) da_nil)))) (ss_cons (s_asg (e_call o f__law_shared (a_cons (e_slot 1) (a_cons (e_op (o_add o) addO_ok de_int (e_call o f__law_roll (a_cons (e_slot 1) (a_cons de_int da_nil)))) da_nil))) (g_tup o (gs_cons (g_name o 2) (gs_cons (g_name o 3) pgs_nil))) (tg_tup rfl (tgs_cons tg_name (tgs_cons tg_name tgs_nil)))) (ss_cons (s_par o 4 5 (a_cons (de_esc (e_call o f__law_count (a_cons (e_slot 2) (a_cons (e_slot 3) da_nil)))) (a_cons (de_esc (e_ty (c_dict o) dictF_ok L.n_dict (b_cons (de_lock (e_lc o [("place", 15)] (i_dict (e_slot 2)) (fun _ _ _ _ _ => (g_name o.blk 15)) (tw_name (by rfl)) (fun _ _ _ _ _ _ => dts_nil) (fun _ _ _ _ _ ob => (de_tup (a_cons (e_slot 15) (a_cons de_int da_nil)))))) db_nil))) da_nil))) (ss_cons (s_for o (passes_of rfl) (i_range1 L.n_range (b_cons de_int db_nil)) (g_name o 6) tg_name
  (ss_cons (s_set o 7 (e_call o f__law_some (a_cons (e_slot 1) (a_cons (e_op (o_add o) addO_ok (e_op (o_add o) addO_ok (e_ty (c_list o) listF_ok L.n_list (b_cons (e_slot 2) db_nil)) (e_ty (c_list o) listF_ok L.n_list (b_cons (e_slot 3) db_nil))) (de_lst (a_cons de_int (a_cons de_int (a_cons de_int (a_cons de_int (a_cons de_int (a_cons (e_op op_mul (opI_ok mulC_ok) de_int de_int) (a_cons (e_un un_neg negO_ok (e_op op_pow (opI_ok powC_ok) de_int de_int)) da_nil))))))))) da_nil)))) (ss_cons (ds_if (PW.pt (dw_or (dt_not (t_val (e_call o f__law_right (a_cons (e_slot 2) (a_cons (e_slot 4) (a_cons (e_slot 7) da_nil)))))) (dw_or1 (dt_not (t_val (e_call o f__law_right (a_cons (e_slot 2) (a_cons (e_slot 5) (a_cons (e_slot 7) da_nil)))))))))
  (ss_cons (ds_ret de_bl) ss_nil)
  ss_nil) ss_nil))) (ss_cons (s_par o 8 9 (a_cons (e_call o f__law_heap (a_cons (e_slot 2) (a_cons (e_slot 4) da_nil))) (a_cons (de_tup da_nil) da_nil))) (ss_cons (s_for o (passes_of rfl) (i_seqF o (e_slot 3)) (g_name o 7) tg_name
  (ss_cons (s_set o 10 (e_call o f_freed_by (a_cons (e_slot 8) (a_cons (e_slot 7) da_nil)))) (ss_cons (ds_if (t_cmp (o_ne o) neO_ok (e_ix o (e_slot 10) de_int) de_str)
  (ss_cons (ds_ret de_bl) ss_nil)
  ss_nil) (ss_cons (s_par o 9 8 (a_cons (e_op (o_add o) addO_ok (e_slot 9) (e_ix o (e_slot 10) de_int)) (a_cons (e_ix o (e_slot 10) de_int) da_nil))) ss_nil)))) (ss_cons (ds_if (PW.pt (dw_or (t_cmp (o_ne o) neO_ok (e_slot 8) (de_tup da_nil)) (dw_or1 (t_cmp (o_ne o) neO_ok (e_bl (c_sorted o) sortedF_ok L.n_sorted (b_cons (e_slot 9) db_nil)) (e_bl (c_sorted o) sortedF_ok L.n_sorted (b_cons (e_slot 2) db_nil))))))
  (ss_cons (ds_ret de_bl) ss_nil)
  ss_nil) (ss_cons (s_set o 11 (de_tup (a_cons (de_tup (a_cons de_int (a_cons de_int (a_cons de_str (a_cons (de_tup (a_cons de_int (a_cons de_int (a_cons de_int (a_cons de_int da_nil))))) da_nil))))) (a_cons (de_tup (a_cons de_int (a_cons de_int (a_cons de_str (a_cons (de_tup (a_cons de_int (a_cons de_int da_nil))) da_nil))))) (a_cons (de_tup (a_cons de_int (a_cons de_int (a_cons de_str (a_cons (de_tup (a_cons de_int (a_cons de_int da_nil))) da_nil))))) (a_cons (de_tup (a_cons de_int (a_cons de_int (a_cons de_str (a_cons (de_tup (a_cons de_int (a_cons de_int da_nil))) da_nil))))) da_nil)))))) (ss_cons (ds_if (PW.pt (dw_or (t_cmp (o_ne o) neO_ok (e_call o f_freed_by (a_cons (e_slot 11) (a_cons de_int da_nil))) (de_tup (a_cons de_str (a_cons (de_tup (a_cons de_int (a_cons de_int (a_cons de_int (a_cons de_int da_nil))))) (a_cons (de_tup da_nil) da_nil))))) (dw_or1 (t_cmp (o_ne o) neO_ok (e_call o f_freed_by (a_cons (de_esc (e_op (o_add o) addO_ok (e_slice o (e_slot 11) .no (.at_ de_int)) (e_slice o (e_slot 11) (.at_ de_int) .no))) (a_cons de_int da_nil))) (de_tup (a_cons de_str (a_cons de_int da_nil)))))))
  (ss_cons (ds_ret de_bl) ss_nil)
  ss_nil) (ss_cons (ds_if (t_cmp (o_ne o) neO_ok (e_call o f_freed_by (a_cons (e_slot 11) (a_cons de_int da_nil))) (de_tup (a_cons de_str (a_cons (de_tup da_nil) (a_cons (e_op (o_add o) addO_ok (e_op (o_add o) addO_ok (e_slice o (e_slot 11) .no (.at_ de_int)) (de_tup (a_cons (de_tup (a_cons de_int (a_cons de_int (a_cons de_str (a_cons (de_tup (a_cons de_int (a_cons de_int da_nil))) da_nil))))) da_nil))) (e_slice o (e_slot 11) (.at_ de_int) .no)) da_nil)))))
  (ss_cons (ds_ret de_bl) ss_nil)
  ss_nil) (ss_cons (s_set o 12 (de_tup (a_cons (de_tup (a_cons de_int (a_cons de_int (a_cons de_str (a_cons (de_tup (a_cons de_int (a_cons de_int da_nil))) da_nil))))) (a_cons (de_tup (a_cons de_int (a_cons de_int (a_cons de_str (a_cons (de_tup (a_cons de_int (a_cons de_int da_nil))) da_nil))))) da_nil)))) (ss_cons (ds_if (PW.pt (dw_or (t_cmp (o_ne o) neO_ok (e_call o f_freed_by (a_cons (e_slot 12) (a_cons de_int da_nil))) (de_tup (a_cons de_str (a_cons (de_tup da_nil) (a_cons (de_tup (a_cons (de_tup (a_cons de_int (a_cons de_int (a_cons de_str (a_cons (de_tup (a_cons de_int (a_cons de_int da_nil))) da_nil))))) (a_cons (de_tup (a_cons de_int (a_cons de_int (a_cons de_str (a_cons (de_tup (a_cons de_int (a_cons de_int da_nil))) da_nil))))) da_nil))) da_nil))))) (dw_or1 (t_cmp (o_ne o) neO_ok (e_call o f_freed_by (a_cons (e_slot 12) (a_cons de_int da_nil))) (de_tup (a_cons de_str (a_cons (de_tup (a_cons de_int da_nil)) (a_cons (de_tup (a_cons (de_tup (a_cons de_int (a_cons de_int (a_cons de_str (a_cons (de_tup (a_cons de_int (a_cons de_int da_nil))) da_nil))))) da_nil)) da_nil))))))))
  (ss_cons (ds_ret de_bl) ss_nil)
  ss_nil) (ss_cons (s_set o 13 (de_tup (a_cons (de_tup (a_cons de_int (a_cons de_int (a_cons de_str (a_cons (de_tup (a_cons de_int (a_cons de_int da_nil))) da_nil))))) (a_cons (de_tup (a_cons de_int (a_cons de_int (a_cons de_str (a_cons (de_tup (a_cons de_int (a_cons de_int da_nil))) da_nil))))) da_nil)))) (ss_cons (ds_if (PW.pt (dw_or (t_cmp (o_ne o) neO_ok (e_call o f_freed_by (a_cons (e_slot 13) (a_cons de_int da_nil))) (de_tup (a_cons de_str (a_cons de_int da_nil)))) (dw_or (t_cmp (o_ne o) neO_ok (e_call o f_freed_by (a_cons (e_slot 11) (a_cons de_int da_nil))) (de_tup (a_cons de_str (a_cons (de_tup da_nil) (a_cons (e_slot 11) da_nil))))) (dw_or1 (t_cmp (o_ne o) neO_ok (e_call o f_freed_by (a_cons (de_tup da_nil) (a_cons de_int da_nil))) (de_tup (a_cons de_str (a_cons de_int da_nil))))))))
  (ss_cons (ds_ret de_bl) ss_nil)
  ss_nil) (ss_cons (s_setLc o 14 [("odd", 16)] (i_seqT o (de_lst (a_cons (de_tup (a_cons de_non (a_cons de_non da_nil))) (a_cons (de_tup (a_cons (e_ty (c_list o) listF_ok L.n_list (b_cons (e_slot 12) db_nil)) (a_cons de_int da_nil))) (a_cons (de_tup (a_cons (e_slot 12) (a_cons de_non da_nil))) (a_cons (de_tup (a_cons (e_slot 12) (a_cons (e_op op_pow (opI_ok powC_ok) de_int de_int) da_nil))) (a_cons (de_tup (a_cons (e_slot 12) (a_cons de_bl da_nil))) da_nil))))))) (fun _ _ _ _ _ => (g_name o.blk 16)) (tw_name (by rfl)) (fun _ _ _ _ _ _ => dts_nil) (fun _ _ _ _ _ ob => (de_esc (lam__law_error L ob TB hc L.hT fun A outer s H E f c hr => have ol := XOk.lam ob hr; (e_call ol f_freed_by (a_cons (e_ix ol (e_slot 16) de_int) (a_cons (e_ix ol (e_slot 16) de_int) da_nil))))))) (ss_cons (ds_ret (e_cmp (o_eq o) eqO_ok (e_slot 14) (de_lst (a_cons de_str (a_cons de_str (a_cons de_str (a_cons de_str (a_cons de_str da_nil)))))))) ss_nil))))))))))))))))
end K71

/-! What the helpers of the law and the program's Drop compute. -/
namespace K71
open PySem PySem.Spec DL Giv
open L2 (Key atI ixN)
def cupO (x y : Int) : MO := .lst [.int x, .int y]
/-- a roll -/
theorem roll_ok {S : Sto} {a : Nat} {x y m : Int} (h : S[a]? = some (cupO x y)) (hx : 0 ≤ x) (hm : 0 < m ∧ m < 1000) :
    ∃ r x' y', F__law_roll [.im (.ref a), .im (.int m)] S = .ok (.im (.int r)) (S.set a (cupO x' y')) ∧ 0 ≤ r ∧ r < m ∧ 0 ≤ x' := by
  have h2 : ∀ o, (S.set a o)[a]? = some o := fun o => get_same h
  rw [F__law_roll, ap_runF, m__law_roll]
  by_cases c : 0 < x
  · refine ⟨x % m, x / m, y, ?_, Int.emod_nonneg _ (by omega), Int.emod_lt_of_pos _ hm.1, Int.ediv_nonneg hx (by omega)⟩
    simp only [↓ap_bind, ↓ap_bindS, ↓ap_seqM, ↓ap_skipM, ↓ap_un, ↓ap_bin, ↓ap_slot, ↓ap_cst, ↓ap_andM, ↓ap_orM, ↓ap_notM, ↓ap_iteM, ↓ap_argsN, ↓ap_argsC, ↓ap_tupM, ↓ap_lstM, ↓ap_escM, ↓ap_appA, ↓ap_callM, ↓ap_exprM, ↓ap_retM, ↓ap_retN, ↓ap_ifM, ↓ap_setM, ↓ap_asgM, ↓ap_parM, ↓ap_par3M, ↓ap_putM, ↓ap_putOwnM, ↓ap_putFldM, ↓ap_methM, ↓ap_lmM, ↓ap_appendOwnM, ↓ap_dpopM, ↓ap_dpop2M, ↓ap_chainM, ↓ap_isiM, ↓ap_sliceM, ↓ap_bdN, ↓ap_bdA, ↓ap_lam, startE, List.map_cons, List.map_nil, List.length_cons, List.length_nil, List.replicate, List.cons_append, List.nil_append, List.append_nil, List.set_cons_zero, List.set_cons_succ, List.getElem?_cons_zero, List.getElem?_cons_succ, T.own, Bool.false_and, Bool.true_and, Bool.not_true, Bool.not_false, Bool.and_false, Bool.and_true, reduceIte, Bool.false_eq_true, escs, esc, tgName, tgTup, tgEach, Nat.zero_add, Nat.reduceAdd, Nat.reduceSub, Nat.reduceLeDiff, Nat.reduceLT, Nat.zero_lt_succ, true_and, Nat.reduceEqDiff, line, ix_ref, seqOf_ref, h, cupO, atI_0, cmpI_i, decide_eq_true c, intF_i, opI_i (modC_p hm.1), opI_i (divC_p (i := x) ⟨hm.1, by omega⟩), putO_0]
  · generalize hy : (y * 31123 + 8069) % 2147483543 = y1
    have hy1 : 0 ≤ y1 ∧ y1 < 2147483543 := by omega
    refine ⟨(y1 * (y1 + 269) % 2147483587 / 859) % m, x, y1, ?_, Int.emod_nonneg _ (by omega), Int.emod_lt_of_pos _ hm.1, hx⟩
    simp only [↓ap_bind, ↓ap_bindS, ↓ap_seqM, ↓ap_skipM, ↓ap_un, ↓ap_bin, ↓ap_slot, ↓ap_cst, ↓ap_andM, ↓ap_orM, ↓ap_notM, ↓ap_iteM, ↓ap_argsN, ↓ap_argsC, ↓ap_tupM, ↓ap_lstM, ↓ap_escM, ↓ap_appA, ↓ap_callM, ↓ap_exprM, ↓ap_retM, ↓ap_retN, ↓ap_ifM, ↓ap_setM, ↓ap_asgM, ↓ap_parM, ↓ap_par3M, ↓ap_putM, ↓ap_putOwnM, ↓ap_putFldM, ↓ap_methM, ↓ap_lmM, ↓ap_appendOwnM, ↓ap_dpopM, ↓ap_dpop2M, ↓ap_chainM, ↓ap_isiM, ↓ap_sliceM, ↓ap_bdN, ↓ap_bdA, ↓ap_lam, startE, List.map_cons, List.map_nil, List.length_cons, List.length_nil, List.replicate, List.cons_append, List.nil_append, List.append_nil, List.set_cons_zero, List.set_cons_succ, List.getElem?_cons_zero, List.getElem?_cons_succ, T.own, Bool.false_and, Bool.true_and, Bool.not_true, Bool.not_false, Bool.and_false, Bool.and_true, reduceIte, Bool.false_eq_true, escs, esc, tgName, tgTup, tgEach, Nat.zero_add, Nat.reduceAdd, Nat.reduceSub, Nat.reduceLeDiff, Nat.reduceLT, Nat.zero_lt_succ, true_and, Nat.reduceEqDiff, line, ix_ref, seqOf_ref, h, h2, cupO, atI_0, atI_1, cmpI_i, decide_eq_false c, intF_i, addO_i, opI_i (mulC_r (i := y) (j := 31123) (by omega)), opI_i (modC_p (j := 2147483543) (by omega)), putO_1, hy, opI_i (mulC_l (i := y1) (j := y1 + 269) (by omega)), opI_i (modC_p (j := 2147483587) (by omega)), opI_i (divC_p (i := y1 * (y1 + 269) % 2147483587) (j := 859) (by omega)), opI_i (modC_p hm.1)]
theorem cup_ok {t : T} {ns : List Int} {S : Sto} (h : LawIn ns t S) (hl : ns.length ≤ 1000) : ∃ x y, F__law_cup [t] S = .ok (.vl [.int x, .int y]) S ∧ 0 ≤ x := by
  have key : seqOf S t = some (ns.map D.int) ∧ t.own = false := by
    rcases h with ⟨rfl, rfl⟩ | ⟨rfl, rfl⟩
    · exact ⟨rfl, rfl⟩
    · exact ⟨rfl, rfl⟩
  have e1 : ∀ S', S' = S → listF [t] S' = .ok (.vl (ns.map D.int)) S' := fun S' e => by
    subst e
    show (match seqOf S' t with | some ds => Res.ok (T.vl ds) S' | none => _) = _
    rw [key.1]
  obtain ⟨i, e2⟩ : ∃ i, atI (ns.map D.int ++ [D.int 0]) 0 = some (.int i) := by
    cases ns with
    | nil => exact ⟨0, rfl⟩
    | cons n ns => exact ⟨n, atI_0⟩
  have e3 : addO (.vl (ns.map D.int)) (.vl [.int 0]) S = .ok (.vl (ns.map D.int ++ [.int 0])) S := by
    show catO (some (ns.map D.int)) (some [.int 0]) S = _
    unfold catO
    simp only
    rw [if_pos (by simp [line]; omega)]
  generalize ha : (if i < 0 then -i else i) = j
  have hj : 0 ≤ j := by split at ha <;> omega
  have e4 : absF [.im (.int i)] S = .ok (.im (.int j)) S := by rw [← ha]; rfl
  have e5 : DL.opI powC (fun i j => i ^ j.toNat) (.im (.int 10)) (.im (.int 18)) S = .ok (.im (.int 1000000000000000000)) S := opI_i (by decide +kernel)
  rw [F__law_cup, ap_runF, m__law_cup]
  by_cases c : (1000000000000000000 : Int) ≤ j
  · refine ⟨j / 101, (j * 317 + 2719) % 2077503089 + 197, ?_, by omega⟩
    simp only [↓ap_bind, ↓ap_bindS, ↓ap_seqM, ↓ap_skipM, ↓ap_un, ↓ap_bin, ↓ap_slot, ↓ap_cst, ↓ap_andM, ↓ap_orM, ↓ap_notM, ↓ap_iteM, ↓ap_argsN, ↓ap_argsC, ↓ap_tupM, ↓ap_lstM, ↓ap_escM, ↓ap_appA, ↓ap_callM, ↓ap_exprM, ↓ap_retM, ↓ap_retN, ↓ap_ifM, ↓ap_setM, ↓ap_asgM, ↓ap_parM, ↓ap_par3M, ↓ap_putM, ↓ap_putOwnM, ↓ap_putFldM, ↓ap_methM, ↓ap_lmM, ↓ap_appendOwnM, ↓ap_dpopM, ↓ap_dpop2M, ↓ap_chainM, ↓ap_isiM, ↓ap_sliceM, ↓ap_bdN, ↓ap_bdA, ↓ap_lam, startE, List.map_cons, List.map_nil, List.length_cons, List.length_nil, List.replicate, List.cons_append, List.nil_append, List.append_nil, List.set_cons_zero, List.set_cons_succ, List.getElem?_cons_zero, List.getElem?_cons_succ, T.own, Bool.false_and, Bool.true_and, Bool.not_true, Bool.not_false, Bool.and_false, Bool.and_true, reduceIte, Bool.false_eq_true, escs, esc, tgName, tgTup, tgEach, Nat.zero_add, Nat.reduceAdd, Nat.reduceSub, Nat.reduceLeDiff, Nat.reduceLT, Nat.zero_lt_succ, true_and, Nat.reduceEqDiff, line, e1 S rfl, key.2, ix_vl, e2, e3, e4, e5, cmpI_i, decide_eq_true c, opI_i (mulC_r (i := j) (j := 317) (by omega)), addO_i, intF_i, opI_i (modC_p (i := j * 317 + 2719) (j := 2077503089) (by omega)), opI_i (divC_p (i := j) (j := 101) (by omega))]
  · refine ⟨0, (j * 317 + 2719) % 2077503089 + 197, ?_, by omega⟩
    simp only [↓ap_bind, ↓ap_bindS, ↓ap_seqM, ↓ap_skipM, ↓ap_un, ↓ap_bin, ↓ap_slot, ↓ap_cst, ↓ap_andM, ↓ap_orM, ↓ap_notM, ↓ap_iteM, ↓ap_argsN, ↓ap_argsC, ↓ap_tupM, ↓ap_lstM, ↓ap_escM, ↓ap_appA, ↓ap_callM, ↓ap_exprM, ↓ap_retM, ↓ap_retN, ↓ap_ifM, ↓ap_setM, ↓ap_asgM, ↓ap_parM, ↓ap_par3M, ↓ap_putM, ↓ap_putOwnM, ↓ap_putFldM, ↓ap_methM, ↓ap_lmM, ↓ap_appendOwnM, ↓ap_dpopM, ↓ap_dpop2M, ↓ap_chainM, ↓ap_isiM, ↓ap_sliceM, ↓ap_bdN, ↓ap_bdA, ↓ap_lam, startE, List.map_cons, List.map_nil, List.length_cons, List.length_nil, List.replicate, List.cons_append, List.nil_append, List.append_nil, List.set_cons_zero, List.set_cons_succ, List.getElem?_cons_zero, List.getElem?_cons_succ, T.own, Bool.false_and, Bool.true_and, Bool.not_true, Bool.not_false, Bool.and_false, Bool.and_true, reduceIte, Bool.false_eq_true, escs, esc, tgName, tgTup, tgEach, Nat.zero_add, Nat.reduceAdd, Nat.reduceSub, Nat.reduceLeDiff, Nat.reduceLT, Nat.zero_lt_succ, true_and, Nat.reduceEqDiff, line, e1 S rfl, key.2, ix_vl, e2, e3, e4, e5, cmpI_i, decide_eq_false c, opI_i (mulC_r (i := j) (j := 317) (by omega)), addO_i, intF_i, opI_i (modC_p (i := j * 317 + 2719) (j := 2077503089) (by omega)), opI_i (divC_p (i := j) (j := 101) (by omega))]
/-- what is there stays there -/
structure Grow (a : Nat) (S S' : Sto) : Prop where
  keep : ∀ i o, i ≠ a → S[i]? = some o → S'[i]? = some o
  cup : ∃ x y, S'[a]? = some (cupO x y) ∧ 0 ≤ x
theorem Grow.trans {a : Nat} {S S1 S2 : Sto} (g : Grow a S S1) (h : Grow a S1 S2) : Grow a S S2 := ⟨fun i o hi e => h.keep i o hi (g.keep i o hi e), h.cup⟩
theorem Grow.cup_ {a : Nat} {S S' : Sto} (g : Grow a S S') : ∃ x y, S'[a]? = some (cupO x y) ∧ 0 ≤ x := g.cup
theorem Grow.roll {S : Sto} {a : Nat} {x y x' y' : Int} (h : S[a]? = some (cupO x y)) (hx : 0 ≤ x') : Grow a S (S.set a (cupO x' y')) := ⟨fun i o hi e => by rw [get_ne (Ne.symm hi), e], x', y', get_same h, hx⟩
theorem Grow.refl {S : Sto} {a : Nat} (h : ∃ x y, S[a]? = some (cupO x y) ∧ 0 ≤ x) : Grow a S S := ⟨fun i o hi e => e, h⟩
/-- one of the things -/
theorem some_ok {S : Sto} {a : Nat} {x y : Int} {t : T} {ds : List D} (h : S[a]? = some (cupO x y)) (hx : 0 ≤ x) (ht : ∀ o, seqOf (S.set a o) t = some ds) (hs : seqOf S t = some ds) (hl : 0 < ds.length ∧ ds.length < 1000) :
    ∃ d x' y', F__law_some [.im (.ref a), t] S = .ok (.im d) (S.set a (cupO x' y')) ∧ d ∈ ds ∧ 0 ≤ x' := by
  obtain ⟨r, x', y', e, h1, h2, h3⟩ := roll_ok (m := ds.length) h hx (by omega)
  obtain ⟨n, rfl⟩ := Int.eq_ofNat_of_zero_le h1
  have hn : n < ds.length := by omega
  refine ⟨ds[n], x', y', ?_, List.getElem_mem hn, h3⟩
  have e1 : lenF [t] S = .ok (.im (.int ds.length)) S := by
    have : lenF [t] S = (match seqOf S t with
      | some ds => Res.ok (.im (.int ds.length)) S
      | none => (match dicW S t with
        | some kvs => .ok (.im (.int kvs.length)) S
        | none => .stuck)) := by
      unfold lenF
      split
      · rename_i z hz; cases hz; cases hs
      · rename_i hz; cases hz; rfl
      · rename_i h1 h2; exact absurd rfl (h2 t)
    rw [this, hs]
  have e2 : ixO t (.im (.int n)) (S.set a (cupO x' y')) = .ok (.im ds[n]) (S.set a (cupO x' y')) := by
    have : ∀ S', seqOf S' t = some ds → ixO t (.im (.int n)) S' = .ok (.im ds[n]) S' := fun S' h => by
      unfold ixO
      split
      · cases h
      · cases h
      · rw [h]; simp only [DL.atI_nat, List.getElem?_eq_getElem hn]
    exact this _ (ht _)
  rw [F__law_some, ap_runF, m__law_some]
  simp only [↓ap_bind, ↓ap_bindS, ↓ap_seqM, ↓ap_skipM, ↓ap_un, ↓ap_bin, ↓ap_slot, ↓ap_cst, ↓ap_andM, ↓ap_orM, ↓ap_notM, ↓ap_iteM, ↓ap_argsN, ↓ap_argsC, ↓ap_tupM, ↓ap_lstM, ↓ap_escM, ↓ap_appA, ↓ap_callM, ↓ap_exprM, ↓ap_retM, ↓ap_retN, ↓ap_ifM, ↓ap_setM, ↓ap_asgM, ↓ap_parM, ↓ap_par3M, ↓ap_putM, ↓ap_putOwnM, ↓ap_putFldM, ↓ap_methM, ↓ap_lmM, ↓ap_appendOwnM, ↓ap_dpopM, ↓ap_dpop2M, ↓ap_chainM, ↓ap_isiM, ↓ap_sliceM, ↓ap_bdN, ↓ap_bdA, ↓ap_lam, startE, List.map_cons, List.map_nil, List.length_cons, List.length_nil, List.replicate, List.cons_append, List.nil_append, List.append_nil, List.set_cons_zero, List.set_cons_succ, List.getElem?_cons_zero, List.getElem?_cons_succ, T.own, Bool.false_and, Bool.true_and, Bool.not_true, Bool.not_false, Bool.and_false, Bool.and_true, reduceIte, Bool.false_eq_true, escs, esc, tgName, tgTup, tgEach, Nat.zero_add, Nat.reduceAdd, Nat.reduceSub, Nat.reduceLeDiff, Nat.reduceLT, Nat.zero_lt_succ, true_and, Nat.reduceEqDiff, line, e1, e, e2]
end K71

namespace K71
open PySem PySem.Spec DL Giv
open L2 (Key atI ixN)
def Kp (S S' : Sto) : Prop := ∀ (i : Nat) (o : MO), S[i]? = some o → S'[i]? = some o
theorem Kp.refl {S : Sto} : Kp S S := fun _ _ h => h
theorem Kp.trans {S S1 S2 : Sto} (h : Kp S S1) (g : Kp S1 S2) : Kp S S2 := fun i o e => g i o (h i o e)
theorem Kp.app {S X : Sto} : Kp S (S ++ X) := fun i o e => get_app e
/-- kept since S0, the cup aside -/
structure Gr (a : Nat) (S0 S : Sto) : Prop where
  keep : ∀ (i : Nat) (o : MO), i ≠ a → S0[i]? = some o → S[i]? = some o
  cup : ∃ x y, S[a]? = some (cupO x y) ∧ 0 ≤ x
  lt : a < S0.length
  le : S0.length ≤ S.length
theorem Gr.refl {S : Sto} {a : Nat} {x y : Int} (h : S[a]? = some (cupO x y)) (hx : 0 ≤ x) : Gr a S S := ⟨fun _ _ _ e => e, ⟨x, y, h, hx⟩, get_lt h, Nat.le_refl _⟩
theorem Gr.app {a : Nat} {S0 S X : Sto} (g : Gr a S0 S) : Gr a S0 (S ++ X) := by
  obtain ⟨x, y, h, hx⟩ := g.cup
  exact ⟨fun i o hi e => get_app (g.keep i o hi e), ⟨x, y, get_app h, hx⟩, g.lt, by rw [List.length_append]; have := g.le; omega⟩
theorem Gr.roll {a : Nat} {S0 S : Sto} {x' y' : Int} (g : Gr a S0 S) (hx : 0 ≤ x') : Gr a S0 (S.set a (cupO x' y')) := by
  obtain ⟨x, y, h, _⟩ := g.cup
  exact ⟨fun i o hi e => by rw [get_ne (Ne.symm hi)]; exact g.keep i o hi e, ⟨x', y', get_same h, hx⟩, g.lt, by rw [List.length_set]; exact g.le⟩
theorem Gr.set {a n : Nat} {S0 S : Sto} {o : MO} (g : Gr a S0 S) (hn : S0.length ≤ n) : Gr a S0 (S.set n o) := by
  obtain ⟨x, y, h, hx⟩ := g.cup
  have := g.lt
  exact ⟨fun i o hi e => by rw [get_ne (by have := get_lt e; omega)]; exact g.keep i o hi e, ⟨x, y, by rw [get_ne (by omega)]; exact h, hx⟩, g.lt, by rw [List.length_set]; exact g.le⟩
theorem Gr.kp {a : Nat} {S0 S S1 : Sto} (g : Gr a S0 S) (k : Kp S S1) : Gr a S0 S1 := by
  obtain ⟨x, y, h, hx⟩ := g.cup
  refine ⟨fun i o hi e => k _ _ (g.keep i o hi e), ⟨x, y, k _ _ h, hx⟩, g.lt, ?_⟩
  have := g.le
  have h0 : S.length ≤ S1.length := by
    rcases Nat.eq_zero_or_pos S.length with h | h
    · omega
    · have h1 := k (S.length - 1) S[S.length - 1] (by simp)
      have := get_lt h1
      omega
  omega
theorem Gr.trans {a : Nat} {S0 S1 S2 : Sto} (g : Gr a S0 S1) (h : Gr a S1 S2) : Gr a S0 S2 := ⟨fun i o hi e => h.keep i o hi (g.keep i o hi e), h.cup, g.lt, Nat.le_trans g.le h.le⟩
theorem canInts : ∀ l : List Int, PyData.canLayAll0 (l.map PyData.int) = true
  | [] => by simp [PyData.canLayAll0]
  | x :: l => by simp [PyData.canLayAll0, PyData.canLay0, canInts l]
theorem depInts : ∀ l : List Int, PyData.depthAll (l.map PyData.int) = 0
  | [] => by simp [PyData.depthAll]
  | x :: l => by simp [PyData.depthAll, PyData.depth, depInts l]
theorem mapO_ints {S : Sto} {n : Nat} : ∀ l : List Int, mapO (toPy S n) (l.map D.int) = some (l.map PyData.int)
  | [] => rfl
  | x :: l => by
    have e : toPy S n (.int x) = some (.int x) := by cases n <;> rfl
    simp only [List.map_cons, mapO, e, mapO_ints l]
theorem neO_nil {S : Sto} {n : Nat} {l : List Int} (h : S[n]? = some (.lst (l.map D.int))) : neO (.im (.ref n)) (.vl []) S = .ok (.im (.bl (!l.isEmpty))) S := by
  have e : pyT S (.im (.ref n)) = some (.list (l.map PyData.int)) := by
    show toPy S 200 (.ref n) = _
    have : toPy S 200 (.ref n) = (match S[n]? with
      | some (.lst ds) => (mapO (toPy S 199) ds).map .list
      | _ => none) := rfl
    rw [this, h]
    simp only [mapO_ints]
    rfl
  have e2 : eqT S (.im (.ref n)) (.vl []) = some l.isEmpty := by
    unfold eqT
    rw [e]
    show eqvO (some (.list (l.map PyData.int))) (some (.list [])) = _
    unfold eqvO
    simp only
    rw [if_pos]
    · cases l <;> rfl
    · simp [PyData.canLay0, canInts, PyData.canLayAll0, PyData.depth, PyData.depthAll]
  unfold neO
  rw [e2]
theorem popF_i {S : Sto} {n : Nat} {ds : List D} {i : Nat} {d : D} (h : S[n]? = some (.lst ds)) (hd : ds[i]? = some d) (hi : i < 1000) : popF (.im (.ref n)) [.im (.int i)] S = .ok (.im d) (S.set n (.lst (ds.eraseIdx i))) := by
  have hl := (List.getElem?_eq_some_iff.mp hd).1
  have e : seqIndex? (i : Int) ds.length = some i := by rw [seqIndex_of (by omega) (by omega)]; simp
  unfold popF
  simp only [h]
  rw [if_pos ⟨by omega, by omega⟩]
  simp only [e, hd]
theorem isLst_ref {S : Sto} {n : Nat} {ds : List D} (h : S[n]? = some (.lst ds)) : isLst S (.im (.ref n)) = true := by
  unfold isLst; simp only [h]
theorem lenF_ref {S : Sto} {n : Nat} {ds : List D} (h : S[n]? = some (.lst ds)) : lenF [.im (.ref n)] S = .ok (.im (.int ds.length)) S := by
  unfold lenF seqOf lstOf lstW; simp only [h]
theorem perm_eraseIdx {α : Type} : ∀ (l : List α) (i : Nat) (h : i < l.length), l.Perm (l[i] :: l.eraseIdx i)
  | [], i, h => by cases h
  | x :: l, 0, h => .refl _
  | x :: l, i + 1, h => by
    have := perm_eraseIdx l i (by simpa using h)
    exact (this.cons x).trans (.swap _ _ _)
theorem map_eraseIdx {α β : Type} (f : α → β) : ∀ (l : List α) (i : Nat), (l.map f).eraseIdx i = (l.eraseIdx i).map f
  | [], i => rfl
  | x :: l, 0 => rfl
  | x :: l, i + 1 => by
    have := map_eraseIdx f l i
    simp only [List.map_cons, List.eraseIdx_cons_succ, this]
theorem spots_loop {S0 : Sto} {a n : Nat} (hn : S0.length ≤ n) : ∀ (left acc : List Int) (k : Nat) (S : Sto), Gr a S0 S → S[n]? = some (.lst (left.map D.int)) → left.length < k → left.length + acc.length < 1000 →
    ∃ l S', whileM (bin (slot true 1) (lstM (argsM [])) neO) (seqM (appendOwnM 2 (lmM popF (slot true 1) (argsM [(callM 2 F__law_roll (argsM [(slot false 0), (appA (argsM [(slot true 1)]) lenF)]))]))) skipM) k [some (.im (.ref a)), some (.im (.ref n)), some (.vl (acc.map D.int)), none] S = .ok (.nx, [some (.im (.ref a)), some (.im (.ref n)), some (.vl ((acc ++ l).map D.int)), none]) S' ∧ Gr a S0 S' ∧ l.Perm left
  | left, acc, 0, S, g, h, hk, _ => by omega
  | [], acc, k + 1, S, g, h, hk, _ => by
    refine ⟨[], S, ?_, g, .refl _⟩
    simp only [ap_while, ↓ap_bind, ↓ap_bindS, ↓ap_seqM, ↓ap_skipM, ↓ap_un, ↓ap_bin, ↓ap_slot, ↓ap_cst, ↓ap_andM, ↓ap_orM, ↓ap_notM, ↓ap_iteM, ↓ap_argsN, ↓ap_argsC, ↓ap_tupM, ↓ap_lstM, ↓ap_escM, ↓ap_appA, ↓ap_callM, ↓ap_exprM, ↓ap_retM, ↓ap_retN, ↓ap_ifM, ↓ap_setM, ↓ap_asgM, ↓ap_parM, ↓ap_par3M, ↓ap_putM, ↓ap_putOwnM, ↓ap_putFldM, ↓ap_methM, ↓ap_lmM, ↓ap_appendOwnM, ↓ap_dpopM, ↓ap_dpop2M, ↓ap_chainM, ↓ap_isiM, ↓ap_sliceM, ↓ap_bdN, ↓ap_bdA, ↓ap_lam, startE, List.map_cons, List.map_nil, List.length_cons, List.length_nil, List.replicate, List.cons_append, List.nil_append, List.append_nil, List.set_cons_zero, List.set_cons_succ, List.getElem?_cons_zero, List.getElem?_cons_succ, T.own, Bool.false_and, Bool.true_and, Bool.not_true, Bool.not_false, Bool.and_false, Bool.and_true, reduceIte, Bool.false_eq_true, escs, esc, tgName, tgTup, tgEach, Nat.zero_add, Nat.reduceAdd, Nat.reduceSub, Nat.reduceLeDiff, Nat.reduceLT, Nat.zero_lt_succ, true_and, Nat.reduceEqDiff, line, neO_nil h, List.isEmpty_nil]
  | x :: left, acc, k + 1, S, g, h, hk, hl => by
    have hemp : (x :: left).isEmpty = false := rfl
    have hpos : 0 < (x :: left).length := by simp
    revert h hk hl hemp hpos
    generalize x :: left = L
    intro h hk hl hemp hpos
    obtain ⟨cx, cy, hc, hx⟩ := g.cup
    have han : a ≠ n := by have := g.lt; omega
    obtain ⟨r, x', y', er, h1, h2, h3⟩ := roll_ok (m := (L.length : Nat)) hc hx (by omega)
    obtain ⟨i, rfl⟩ := Int.eq_ofNat_of_zero_le h1
    have hi : i < L.length := by omega
    have hS : (S.set a (cupO x' y'))[n]? = some (.lst (L.map D.int)) := by rw [get_ne han, h]
    have hd : (L.map D.int)[i]? = some (.int L[i]) := by rw [List.getElem?_map, List.getElem?_eq_getElem hi]; rfl
    have ep := popF_i (i := i) hS hd (by omega)
    have hl2 : (L.eraseIdx i).length + 1 = L.length := by rw [List.length_eraseIdx_of_lt hi]; omega
    obtain ⟨l, S', e, g', p'⟩ := spots_loop hn (L.eraseIdx i) (acc ++ [L[i]]) k ((S.set a (cupO x' y')).set n (.lst ((L.map D.int).eraseIdx i))) ((g.roll h3).set hn)
      (by rw [get_same hS, map_eraseIdx]) (by omega) (by simp; omega)
    refine ⟨L[i] :: l, S', ?_, g', (List.Perm.cons _ p').trans (perm_eraseIdx _ _ hi).symm⟩
    have e1 : lenF [.im (.ref n)] S = .ok (.im (.int (L.length : Nat))) S := by rw [lenF_ref h, List.length_map]
    have el' : (acc.length < 16777216) = True := by simp; omega
    rw [ap_while]
    simp only [↓ap_bind, ↓ap_bindS, ↓ap_seqM, ↓ap_skipM, ↓ap_un, ↓ap_bin, ↓ap_slot, ↓ap_cst, ↓ap_andM, ↓ap_orM, ↓ap_notM, ↓ap_iteM, ↓ap_argsN, ↓ap_argsC, ↓ap_tupM, ↓ap_lstM, ↓ap_escM, ↓ap_appA, ↓ap_callM, ↓ap_exprM, ↓ap_retM, ↓ap_retN, ↓ap_ifM, ↓ap_setM, ↓ap_asgM, ↓ap_parM, ↓ap_par3M, ↓ap_putM, ↓ap_putOwnM, ↓ap_putFldM, ↓ap_methM, ↓ap_lmM, ↓ap_appendOwnM, ↓ap_dpopM, ↓ap_dpop2M, ↓ap_chainM, ↓ap_isiM, ↓ap_sliceM, ↓ap_bdN, ↓ap_bdA, ↓ap_lam, startE, List.map_cons, List.map_nil, List.length_cons, List.length_nil, List.replicate, List.cons_append, List.nil_append, List.append_nil, List.set_cons_zero, List.set_cons_succ, List.getElem?_cons_zero, List.getElem?_cons_succ, T.own, Bool.false_and, Bool.true_and, Bool.not_true, Bool.not_false, Bool.and_false, Bool.and_true, reduceIte, Bool.false_eq_true, escs, esc, tgName, tgTup, tgEach, Nat.zero_add, Nat.reduceAdd, Nat.reduceSub, Nat.reduceLeDiff, Nat.reduceLT, Nat.zero_lt_succ, true_and, Nat.reduceEqDiff, line, neO_nil h, hemp, ap_appendOwnM, isLst_ref h, e1, er, ep, List.length_map, el']
    have e2 : acc.map D.int ++ [D.int L[i]] = (acc ++ [L[i]]).map D.int := by simp
    rw [e2, e]
    simp
def spotsL : List Int := (List.range 24).map fun i => 16 + 16 * ((i : Nat) : Int)
theorem spots_ok {S : Sto} {a : Nat} {x y : Int} (h : S[a]? = some (cupO x y)) (hx : 0 ≤ x) : ∃ (l : List Int) (S' : Sto), F__law_spots [.im (.ref a)] S = .ok (.vl (l.map D.int)) S' ∧ Gr a S S' ∧ l.Perm spotsL := by
  have e1 : range1S (cst (.int 24)) [some (.im (.ref a)), none, none, none] S = .ok (constG (rangeD 0 24), (rangeD 0 24).length) S := range1S_ok (j := 24) rfl (by omega)
  have e2 : lcM (range1S (cst (.int 24))) [3] (tgName 3) yesM (bin (cst (.int 16)) (bin (cst (.int 16)) (slot true 3) (DL.opI mulC (· * ·))) addO) [some (.im (.ref a)), none, none, none] S = .ok (.vl (spotsL.map D.int)) S := by
    rw [lcM_const e1]
    rw [lcR_map (f := fun d => match d with | .int i => .int (16 + 16 * i) | d => d)]
    · rfl
    · intro d hd
      simp only [rangeD, List.mem_map, List.mem_range] at hd
      obtain ⟨i, hi, rfl⟩ := hd
      refine ⟨_, rfl, ?_⟩
      simp only [↓ap_bind, ↓ap_bindS, ↓ap_seqM, ↓ap_skipM, ↓ap_un, ↓ap_bin, ↓ap_slot, ↓ap_cst, ↓ap_andM, ↓ap_orM, ↓ap_notM, ↓ap_iteM, ↓ap_argsN, ↓ap_argsC, ↓ap_tupM, ↓ap_lstM, ↓ap_escM, ↓ap_appA, ↓ap_callM, ↓ap_exprM, ↓ap_retM, ↓ap_retN, ↓ap_ifM, ↓ap_setM, ↓ap_asgM, ↓ap_parM, ↓ap_par3M, ↓ap_putM, ↓ap_putOwnM, ↓ap_putFldM, ↓ap_methM, ↓ap_lmM, ↓ap_appendOwnM, ↓ap_dpopM, ↓ap_dpop2M, ↓ap_chainM, ↓ap_isiM, ↓ap_sliceM, ↓ap_bdN, ↓ap_bdA, ↓ap_lam, startE, List.map_cons, List.map_nil, List.length_cons, List.length_nil, List.replicate, List.cons_append, List.nil_append, List.append_nil, List.set_cons_zero, List.set_cons_succ, List.getElem?_cons_zero, List.getElem?_cons_succ, T.own, Bool.false_and, Bool.true_and, Bool.not_true, Bool.not_false, Bool.and_false, Bool.and_true, reduceIte, Bool.false_eq_true, escs, esc, tgName, tgTup, tgEach, Nat.zero_add, Nat.reduceAdd, Nat.reduceSub, Nat.reduceLeDiff, Nat.reduceLT, Nat.zero_lt_succ, true_and, Nat.reduceEqDiff, line, wipeE, opI_i (mulC_l (i := 16) (by omega)), addO_i]
    · simp [rangeD, line]
  have g0 : Gr a S (S ++ [.lst (spotsL.map D.int)]) := (Gr.refl h hx).app
  obtain ⟨l, S', e, g, pm⟩ := spots_loop (n := S.length) (Nat.le_refl _) spotsL [] 100000 _ g0 get_end (by decide) (by decide)
  refine ⟨l, S', ?_, g, pm⟩
  rw [F__law_spots, ap_runF, m__law_spots]
  simp only [↓ap_bind, ↓ap_bindS, ↓ap_seqM, ↓ap_skipM, ↓ap_un, ↓ap_bin, ↓ap_slot, ↓ap_cst, ↓ap_andM, ↓ap_orM, ↓ap_notM, ↓ap_iteM, ↓ap_argsN, ↓ap_argsC, ↓ap_tupM, ↓ap_lstM, ↓ap_escM, ↓ap_appA, ↓ap_callM, ↓ap_exprM, ↓ap_retM, ↓ap_retN, ↓ap_ifM, ↓ap_setM, ↓ap_asgM, ↓ap_parM, ↓ap_par3M, ↓ap_putM, ↓ap_putOwnM, ↓ap_putFldM, ↓ap_methM, ↓ap_lmM, ↓ap_appendOwnM, ↓ap_dpopM, ↓ap_dpop2M, ↓ap_chainM, ↓ap_isiM, ↓ap_sliceM, ↓ap_bdN, ↓ap_bdA, ↓ap_lam, startE, List.map_cons, List.map_nil, List.length_cons, List.length_nil, List.replicate, List.cons_append, List.nil_append, List.append_nil, List.set_cons_zero, List.set_cons_succ, List.getElem?_cons_zero, List.getElem?_cons_succ, T.own, Bool.false_and, Bool.true_and, Bool.not_true, Bool.not_false, Bool.and_false, Bool.and_true, reduceIte, Bool.false_eq_true, escs, esc, tgName, tgTup, tgEach, Nat.zero_add, Nat.reduceAdd, Nat.reduceSub, Nat.reduceLeDiff, Nat.reduceLT, Nat.zero_lt_succ, true_and, Nat.reduceEqDiff, line, e2]
  rw [List.map_nil] at e
  rw [e]
  simp only [↓ap_bind, ↓ap_bindS, ↓ap_seqM, ↓ap_skipM, ↓ap_un, ↓ap_bin, ↓ap_slot, ↓ap_cst, ↓ap_andM, ↓ap_orM, ↓ap_notM, ↓ap_iteM, ↓ap_argsN, ↓ap_argsC, ↓ap_tupM, ↓ap_lstM, ↓ap_escM, ↓ap_appA, ↓ap_callM, ↓ap_exprM, ↓ap_retM, ↓ap_retN, ↓ap_ifM, ↓ap_setM, ↓ap_asgM, ↓ap_parM, ↓ap_par3M, ↓ap_putM, ↓ap_putOwnM, ↓ap_putFldM, ↓ap_methM, ↓ap_lmM, ↓ap_appendOwnM, ↓ap_dpopM, ↓ap_dpop2M, ↓ap_chainM, ↓ap_isiM, ↓ap_sliceM, ↓ap_bdN, ↓ap_bdA, ↓ap_lam, startE, List.map_cons, List.map_nil, List.length_cons, List.length_nil, List.replicate, List.cons_append, List.nil_append, List.append_nil, List.set_cons_zero, List.set_cons_succ, List.getElem?_cons_zero, List.getElem?_cons_succ, T.own, Bool.false_and, Bool.true_and, Bool.not_true, Bool.not_false, Bool.and_false, Bool.and_true, reduceIte, Bool.false_eq_true, escs, esc, tgName, tgTup, tgEach, Nat.zero_add, Nat.reduceAdd, Nat.reduceSub, Nat.reduceLeDiff, Nat.reduceLT, Nat.zero_lt_succ, true_and, Nat.reduceEqDiff, line]
end K71

namespace K71
open PySem PySem.Spec DL Giv
open L2 (Key atI ixN)
/-- the law's cells: place to [shape, [fields]] -/
def cellKV (ps : List Int) (rf : Int → Nat) : List (Key × D) := ps.map fun p => (Sum.inl p, D.ref (rf p))
def cntKV (ps : List Int) (c : Int → Int) : List (Key × D) := ps.map fun p => (Sum.inl p, D.int (c p))
structure Recs (S : Sto) (ps : List Int) (sh : Int → Str) (fl : Int → List Int) (rf rg : Int → Nat) : Prop where
  rcd : ∀ p ∈ ps, S[rf p]? = some (.lst [.str (sh p), .ref (rg p)])
  fld : ∀ p ∈ ps, S[rg p]? = some (.lst ((fl p).map D.int))
theorem Recs.kp {S S' : Sto} {ps sh fl rf rg} (r : Recs S ps sh fl rf rg) (k : Kp S S') : Recs S' ps sh fl rf rg := ⟨fun p hp => k _ _ (r.rcd p hp), fun p hp => k _ _ (r.fld p hp)⟩
theorem Recs.set {S : Sto} {ps sh fl rf rg} {c : Nat} {o : MO} (r : Recs S ps sh fl rf rg) (h : ∀ ds, S[c]? ≠ some (.lst ds)) : Recs (S.set c o) ps sh fl rf rg :=
  ⟨fun p hp => by rw [get_ne (fun e => h _ (by rw [e]; exact r.rcd p hp)), r.rcd p hp], fun p hp => by rw [get_ne (fun e => h _ (by rw [e]; exact r.fld p hp)), r.fld p hp]⟩
theorem getK_map {α : Type} {f : Int → α} : ∀ {ps : List Int} {p : Int}, getK (ps.map fun p => ((Sum.inl p : Key), f p)) (.inl p) = if p ∈ ps then some (f p) else none
  | [], p => by simp [getK]
  | q :: ps, p => by
    simp only [List.map_cons, getK]
    by_cases h : q = p
    · subst h; simp
    · rw [if_neg (by simpa using h), getK_map (ps := ps)]
      simp [Ne.symm h]
theorem keys_map {α : Type} {f : Int → α} (ps : List Int) : (ps.map fun p => ((Sum.inl p : Key), f p)).map (·.1) = ps.map fun p => (Sum.inl p : Key) := by simp
theorem keyInts_map {f : Int → D} : ∀ ps : List Int, keyInts (ps.map fun p => ((Sum.inl p : Key), f p)) = some ps
  | [] => rfl
  | p :: ps => by simp only [List.map_cons, keyInts, keyInts_map ps, Option.map]
theorem keysD_map {f : Int → D} (ps : List Int) : keysD (ps.map fun p => ((Sum.inl p : Key), f p)) = ps.map D.int := by
  unfold keysD; simp [keyV]
theorem sorted_dic {S : Sto} {c : Nat} {ps : List Int} {f : Int → D} (h : S[c]? = some (.dic (ps.map fun p => ((Sum.inl p : Key), f p)))) (hl : ps.length < 64) : sortedF [.im (.ref c)] S = .ok (.vl ((sortI ps).map D.int)) S := by
  unfold sortedF lstOf lstW dicOf
  simp only [h, keyInts_map]
  rw [if_pos hl]
theorem pairsOf_map {f : Int → D} : ∀ ps : List Int, pairsOf (ps.map fun p => D.tup [.int p, f p]) = some (ps.map fun p => (Sum.inl p, f p))
  | [] => rfl
  | p :: ps => by simp only [List.map_cons, pairsOf, pairsOf_map ps, Option.map]
theorem dictF_map {f : Int → D} {S : Sto} {ps : List Int} (nd : ps.Nodup) : dictF [.vl (ps.map fun p => D.tup [.int p, f p])] S = .ok (.vd (ps.map fun p => (Sum.inl p, f p))) S := by
  have e : mergeD (ps.map fun p => ((Sum.inl p : Key), f p)) [] = ps.map fun p => (Sum.inl p, f p) := by
    rw [mergeD_new (α := Nat)]
    · rfl
    · rw [keys_map]
      exact List.pairwise_map.mpr (nd.imp fun h e => h (by cases e; rfl))
    · intro k _ h; cases h
  unfold dictF lstOf lstW
  simp only [pairsOf_map, e]
/-- for place in a dict, under the lock -/
theorem lock_lc {S : Sto} {c i : Nat} {ρ : Ev} {ps : List Int} {g f : Int → D} {vs : List Nat} {tgt : Tgt} {elt : M} (hρ : ρ[i]? = some (some (.im (.ref c)))) (h : S[c]? = some (.dic (ps.map fun p => ((Sum.inl p : Key), g p)))) (hl : ps.length ≤ 1000)
    (he : ∀ p ∈ ps, ∃ ρ1, tgt (.int p) (wipeE ρ vs) = some ρ1 ∧ elt ρ1 (S.set c (.fdic (ps.map fun p => ((Sum.inl p : Key), g p)))) = .ok (.im (f p)) (S.set c (.fdic (ps.map fun p => ((Sum.inl p : Key), g p))))) :
    lockM i (lcM (dictS (slot true i)) vs tgt yesM elt) ρ S = .ok (.vl (ps.map f)) S := by
  have hS := get_same (o' := .fdic (ps.map fun p => ((Sum.inl p : Key), g p))) h
  have e1 : dictS (slot true i) ρ (S.set c (.fdic (ps.map fun p => ((Sum.inl p : Key), g p)))) = .ok (constG (ps.map D.int), (ps.map D.int).length) (S.set c (.fdic (ps.map fun p => ((Sum.inl p : Key), g p)))) := by
    simp only [ap_dictS, ap_slot, hρ, T.own, Bool.false_and, Bool.false_eq_true, if_false, hS, keysD_map, List.length_map]
  rw [ap_lockM]
  simp only [hρ, h, lcM_const e1]
  rw [lcR_map (f := fun d => match d with | .int p => f p | d => d)]
  · simp only [hS, List.nil_append]
    have : (ps.map D.int).map (fun d => match d with | .int p => f p | d => d) = ps.map f := by simp
    rw [this]
    have e2 : (S.set c (.fdic (ps.map fun p => ((Sum.inl p : Key), g p)))).set c (.dic (ps.map fun p => ((Sum.inl p : Key), g p))) = S := by
      rw [List.set_set]
      apply List.ext_getElem?
      intro j
      rw [List.getElem?_set]
      split
      · rename_i e; subst e; rw [h]; rw [if_pos (get_lt h)]
      · rfl
    rw [e2]
  · intro d hd
    obtain ⟨p, hp, rfl⟩ := List.mem_map.mp hd
    exact he p hp
  · simp [line]; omega
def heapT (ps : List Int) (c : Int → Int) (sh : Int → Str) (fl : Int → List Int) : D := .tup (ps.map fun p => .tup [.int p, .int (c p), .str (sh p), .tup ((fl p).map D.int)])
theorem mem_sortI {x : Int} {l : List Int} : x ∈ sortI l ↔ x ∈ l := (sortI_perm l).mem_iff
theorem tupleF_ref {S : Sto} {n : Nat} {ds : List D} (h : S[n]? = some (.lst ds)) : tupleF [.im (.ref n)] S = .ok (.im (.tup ds)) S := by
  unfold tupleF lstOf lstW; simp only [h]
theorem listF_ref {S : Sto} {n : Nat} {ds : List D} (h : S[n]? = some (.lst ds)) : listF [.im (.ref n)] S = .ok (.vl ds) S := by
  unfold listF seqOf lstOf lstW; simp only [h]
/-- the law's heap -/
theorem heap_ok {S : Sto} {c b : Nat} {ps : List Int} {sh fl rf rg} {cnt : Int → Int} {kvs : List (Key × D)} (r : Recs S ps sh fl rf rg) (h : S[c]? = some (.dic (cellKV ps rf))) (hb : S[b]? = some (.dic kvs)) (hk : ∀ p ∈ ps, getK kvs (.inl p) = some (.int (cnt p))) (hl : ps.length < 64) :
    F__law_heap [.im (.ref c), .im (.ref b)] S = .ok (.im (heapT (sortI ps) cnt sh fl)) S := by
  have e1 : seqS (appA (argsM [(slot true 0)]) sortedF) [some (.im (.ref c)), some (.im (.ref b)), none] S = .ok (constG ((sortI ps).map D.int), ((sortI ps).map D.int).length) S := by
    simp only [ap_seqS, ↓ap_bind, ↓ap_bindS, ↓ap_seqM, ↓ap_skipM, ↓ap_un, ↓ap_bin, ↓ap_slot, ↓ap_cst, ↓ap_andM, ↓ap_orM, ↓ap_notM, ↓ap_iteM, ↓ap_argsN, ↓ap_argsC, ↓ap_tupM, ↓ap_lstM, ↓ap_escM, ↓ap_appA, ↓ap_callM, ↓ap_exprM, ↓ap_retM, ↓ap_retN, ↓ap_ifM, ↓ap_setM, ↓ap_asgM, ↓ap_parM, ↓ap_par3M, ↓ap_putM, ↓ap_putOwnM, ↓ap_putFldM, ↓ap_methM, ↓ap_lmM, ↓ap_appendOwnM, ↓ap_dpopM, ↓ap_dpop2M, ↓ap_chainM, ↓ap_isiM, ↓ap_sliceM, ↓ap_bdN, ↓ap_bdA, ↓ap_lam, startE, List.map_cons, List.map_nil, List.length_cons, List.length_nil, List.replicate, List.cons_append, List.nil_append, List.append_nil, List.set_cons_zero, List.set_cons_succ, List.getElem?_cons_zero, List.getElem?_cons_succ, T.own, Bool.false_and, Bool.true_and, Bool.not_true, Bool.not_false, Bool.and_false, Bool.and_true, reduceIte, Bool.false_eq_true, escs, esc, tgName, tgTup, tgEach, Nat.zero_add, Nat.reduceAdd, Nat.reduceSub, Nat.reduceLeDiff, Nat.reduceLT, Nat.zero_lt_succ, true_and, Nat.reduceEqDiff, line, sorted_dic h hl, walkOf]
  rw [F__law_heap, ap_runF, m__law_heap]
  simp only [↓ap_bind, ↓ap_bindS, ↓ap_seqM, ↓ap_skipM, ↓ap_un, ↓ap_bin, ↓ap_slot, ↓ap_cst, ↓ap_andM, ↓ap_orM, ↓ap_notM, ↓ap_iteM, ↓ap_argsN, ↓ap_argsC, ↓ap_tupM, ↓ap_lstM, ↓ap_escM, ↓ap_appA, ↓ap_callM, ↓ap_exprM, ↓ap_retM, ↓ap_retN, ↓ap_ifM, ↓ap_setM, ↓ap_asgM, ↓ap_parM, ↓ap_par3M, ↓ap_putM, ↓ap_putOwnM, ↓ap_putFldM, ↓ap_methM, ↓ap_lmM, ↓ap_appendOwnM, ↓ap_dpopM, ↓ap_dpop2M, ↓ap_chainM, ↓ap_isiM, ↓ap_sliceM, ↓ap_bdN, ↓ap_bdA, ↓ap_lam, startE, List.map_cons, List.map_nil, List.length_cons, List.length_nil, List.replicate, List.cons_append, List.nil_append, List.append_nil, List.set_cons_zero, List.set_cons_succ, List.getElem?_cons_zero, List.getElem?_cons_succ, T.own, Bool.false_and, Bool.true_and, Bool.not_true, Bool.not_false, Bool.and_false, Bool.and_true, reduceIte, Bool.false_eq_true, escs, esc, tgName, tgTup, tgEach, Nat.zero_add, Nat.reduceAdd, Nat.reduceSub, Nat.reduceLeDiff, Nat.reduceLT, Nat.zero_lt_succ, true_and, Nat.reduceEqDiff, line]
  rw [lcM_const e1, lcR_map (f := fun d => match d with | .int p => .tup [.int p, .int (cnt p), .str (sh p), .tup ((fl p).map D.int)] | d => d)]
  · simp only [tupleF, lstOf, lstW, List.nil_append]
    rw [List.map_map]
    rfl
  · intro d hd
    obtain ⟨p, hp, rfl⟩ := List.mem_map.mp hd
    rw [mem_sortI] at hp
    refine ⟨_, rfl, ?_⟩
    have g1 : getK (cellKV ps rf) (.inl p) = some (.ref (rf p)) := by unfold cellKV; rw [getK_map, if_pos hp]
    simp only [↓ap_bind, ↓ap_bindS, ↓ap_seqM, ↓ap_skipM, ↓ap_un, ↓ap_bin, ↓ap_slot, ↓ap_cst, ↓ap_andM, ↓ap_orM, ↓ap_notM, ↓ap_iteM, ↓ap_argsN, ↓ap_argsC, ↓ap_tupM, ↓ap_lstM, ↓ap_escM, ↓ap_appA, ↓ap_callM, ↓ap_exprM, ↓ap_retM, ↓ap_retN, ↓ap_ifM, ↓ap_setM, ↓ap_asgM, ↓ap_parM, ↓ap_par3M, ↓ap_putM, ↓ap_putOwnM, ↓ap_putFldM, ↓ap_methM, ↓ap_lmM, ↓ap_appendOwnM, ↓ap_dpopM, ↓ap_dpop2M, ↓ap_chainM, ↓ap_isiM, ↓ap_sliceM, ↓ap_bdN, ↓ap_bdA, ↓ap_lam, startE, List.map_cons, List.map_nil, List.length_cons, List.length_nil, List.replicate, List.cons_append, List.nil_append, List.append_nil, List.set_cons_zero, List.set_cons_succ, List.getElem?_cons_zero, List.getElem?_cons_succ, T.own, Bool.false_and, Bool.true_and, Bool.not_true, Bool.not_false, Bool.and_false, Bool.and_true, reduceIte, Bool.false_eq_true, escs, esc, tgName, tgTup, tgEach, Nat.zero_add, Nat.reduceAdd, Nat.reduceSub, Nat.reduceLeDiff, Nat.reduceLT, Nat.zero_lt_succ, true_and, Nat.reduceEqDiff, line, wipeE, ix_ref, seqOf_ref, dicOf_ref, hb, h, keyD, hk p hp, g1, r.rcd p hp, atI_0, atI_1, tupleF_ref (r.fld p hp)]
  · have := (sortI_perm ps).length_eq
    simp [line]; omega
end K71

namespace K71
open PySem PySem.Spec DL Giv
open L2 (Key atI ixN)
theorem forL_obj_step {tgt : Tgt} {body : MS} {n : Nat} {pre rest : List D} {d : D} {ρ ρ1 ρ2 : Ev} {S S2 : Sto} (h : S[n]? = some (.lst (pre ++ d :: rest))) (ht : tgt d ρ = some ρ1) (hb : body ρ1 S = .ok (.nx, ρ2) S2) : forL (objG n) tgt body (rest.length + 1) pre.length ρ S = forL (objG n) tgt body rest.length (pre.length + 1) ρ2 S2 := by
  conv => lhs; unfold forL
  simp only [objG, h]
  rw [List.getElem?_append_right (Nat.le_refl _), Nat.sub_self, List.getElem?_cons_zero]
  simp only [ht, hb]
theorem forL_obj_rt {tgt : Tgt} {body : MS} {n : Nat} {pre rest : List D} {d : D} {ρ ρ1 ρ2 : Ev} {S S2 : Sto} {t : T} (h : S[n]? = some (.lst (pre ++ d :: rest))) (ht : tgt d ρ = some ρ1) (hb : body ρ1 S = .ok (.rt t, ρ2) S2) : forL (objG n) tgt body (rest.length + 1) pre.length ρ S = .ok (.rt t, ρ2) S2 := by
  conv => lhs; unfold forL
  simp only [objG, h]
  rw [List.getElem?_append_right (Nat.le_refl _), Nat.sub_self, List.getElem?_cons_zero]
  simp only [ht, hb]
theorem forL_obj_end {tgt : Tgt} {body : MS} {n : Nat} {pre : List D} {ρ : Ev} {S : Sto} (h : S[n]? = some (.lst pre)) : forL (objG n) tgt body 0 pre.length ρ S = .ok (.nx, ρ) S := by
  unfold forL
  simp only [objG, h]
  rw [List.getElem?_eq_none (Nat.le_refl _)]
theorem forM_ref {sm : SM} {tgt : Tgt} {body : MS} {n k : Nat} {ρ : Ev} {S S1 : Sto} (h : sm ρ S = .ok (objG n, k) S1) : DL.forM sm tgt body ρ S = forL (objG n) tgt body k 0 ρ S1 := by
  unfold DL.forM
  rw [h]
theorem inO_vd {w : Int} {kvs : List (Key × D)} {S : Sto} : inO (.im (.int w)) (.vd kvs) S = .ok (.im (.bl (getK kvs (.inl w)).isSome)) S := rfl
theorem putD_map {f : Int → D} {w : Int} {d : D} : ∀ {ps : List Int}, ps.Nodup → w ∈ ps → putD (ps.map fun p => ((Sum.inl p : Key), f p)) (.inl w) d = ps.map fun p => (Sum.inl p, if p = w then d else f p)
  | [], _, h => by cases h
  | p :: ps, nd, h => by
    simp only [List.nodup_cons] at nd
    simp only [List.map_cons, putD]
    by_cases e : p = w
    · subst e
      rw [if_pos rfl, if_pos rfl]
      congr 1
      apply List.map_congr_left
      intro q hq
      rw [if_neg (fun e : q = p => nd.1 (e ▸ hq))]
    · rw [if_neg (by simpa using e), if_neg e, putD_map nd.2 (by simpa [Ne.symm e] using h)]
theorem addO_vl {xs ys : List D} {S : Sto} (h : xs.length + ys.length ≤ line) : addO (.vl xs) (.vl ys) S = .ok (.vl (xs ++ ys)) S := by
  show catO (some xs) (some ys) S = _
  unfold catO
  simp only
  rw [if_pos h]
theorem addO_rv {n : Nat} {xs ys : List D} {S : Sto} (hn : S[n]? = some (.lst xs)) (h : xs.length + ys.length ≤ line) : addO (.im (.ref n)) (.vl ys) S = .ok (.vl (xs ++ ys)) S := by
  have : addO (.im (.ref n)) (.vl ys) S = catO (lstW S (.im (.ref n))) (some ys) S := rfl
  rw [this]
  unfold lstW catO
  simp only [hn]
  rw [if_pos h]
theorem addO_vr {n : Nat} {xs ys : List D} {S : Sto} (hn : S[n]? = some (.lst ys)) (h : xs.length + ys.length ≤ line) : addO (.vl xs) (.im (.ref n)) S = .ok (.vl (xs ++ ys)) S := by
  have : addO (.vl xs) (.im (.ref n)) S = catO (some xs) (lstW S (.im (.ref n))) S := rfl
  rw [this]
  unfold lstW catO
  simp only [hn]
  rw [if_pos h]
theorem count_words {S : Sto} {c : Nat} {t : T} {found : T} {ps : List Int} {sh fl rf rg} {kvs : List (Key × D)} {v5 : Option T} (r : Recs S ps sh fl rf rg) (hk : ∀ p ∈ ps, getK kvs (.inl p) = some (.ref (rf p))) (hf : ∀ p ∈ ps, (fl p).length = 2) :
    ∀ (qs ws : List Int) (S1 : Sto) (n : Nat) (v4 : Option T), (∀ q ∈ qs, q ∈ ps) → Kp S S1 → S1[c]? = some (.fdic kvs) → S1[n]? = some (.lst (ws.map D.int)) → ws.length + 2 * qs.length < 1000 →
    ∃ n' v4' S', forR (tgName 4) (seqM (setM 3 (escM (bin (slot true 3) (appA (argsM [(bin (bin (slot true 0) (slot true 4) ixO) (cst (.int 1)) ixO)]) listF) addO))) skipM) (qs.map D.int) [some (.im (.ref c)), some t, some found, some (.im (.ref n)), v4, v5] S1 = .ok (.nx, [some (.im (.ref c)), some t, some found, some (.im (.ref n')), v4', v5]) S' ∧ Kp S1 S' ∧ S'[n']? = some (.lst ((ws ++ qs.flatMap fl).map D.int))
  | [], ws, S1, n, v4, _, k, h, hn, _ => ⟨n, v4, S1, rfl, .refl, by simpa using hn⟩
  | q :: qs, ws, S1, n, v4, hq, k, h, hn, hl => by
    simp only [List.length_cons] at hl
    have r1 := r.kp k
    have hqp := hq q (by simp)
    have e1 := addO_rv (ys := (fl q).map D.int) hn (by simp [hf q hqp, line]; omega)
    rw [← List.map_append] at e1
    obtain ⟨n', v4', S', e, k', hn'⟩ := count_words r hk hf (c := c) (t := t) (found := found) (v5 := v5) qs (ws ++ fl q) (S1 ++ [.lst ((ws ++ fl q).map D.int)]) S1.length (some (.im (.int q))) (fun x hx => hq x (by simp [hx])) (k.trans .app) (get_app h) get_end (by simp [hf q hqp]; omega)
    refine ⟨n', v4', S', ?_, Kp.app.trans k', by simpa using hn'⟩
    rw [List.map_cons, forR]
    simp only [↓ap_bind, ↓ap_bindS, ↓ap_seqM, ↓ap_skipM, ↓ap_un, ↓ap_bin, ↓ap_slot, ↓ap_cst, ↓ap_andM, ↓ap_orM, ↓ap_notM, ↓ap_iteM, ↓ap_argsN, ↓ap_argsC, ↓ap_tupM, ↓ap_lstM, ↓ap_escM, ↓ap_appA, ↓ap_callM, ↓ap_exprM, ↓ap_retM, ↓ap_retN, ↓ap_ifM, ↓ap_setM, ↓ap_asgM, ↓ap_parM, ↓ap_par3M, ↓ap_putM, ↓ap_putOwnM, ↓ap_putFldM, ↓ap_methM, ↓ap_lmM, ↓ap_appendOwnM, ↓ap_dpopM, ↓ap_dpop2M, ↓ap_chainM, ↓ap_isiM, ↓ap_sliceM, ↓ap_bdN, ↓ap_bdA, ↓ap_lam, startE, List.map_cons, List.map_nil, List.length_cons, List.length_nil, List.replicate, List.cons_append, List.nil_append, List.append_nil, List.set_cons_zero, List.set_cons_succ, List.getElem?_cons_zero, List.getElem?_cons_succ, T.own, Bool.false_and, Bool.true_and, Bool.not_true, Bool.not_false, Bool.and_false, Bool.and_true, reduceIte, Bool.false_eq_true, escs, esc, tgName, tgTup, tgEach, Nat.zero_add, Nat.reduceAdd, Nat.reduceSub, Nat.reduceLeDiff, Nat.reduceLT, Nat.zero_lt_succ, true_and, Nat.reduceEqDiff, line, ix_ref, seqOf_ref, dicOf_ref, h, keyD, hk q hqp, r1.rcd q hqp, atI_1, listF_ref (r1.fld q hqp), e1]
    exact e
theorem count_add {S : Sto} {c n : Nat} {t : T} {ps : List Int} (nd : ps.Nodup) (hps : ps.length < 1000) {all : List Int} (hn : S[n]? = some (.lst (all.map D.int))) :
    ∀ (rest pre : List Int) (cnt : Int → Int) (v4 v5 : Option T), all = pre ++ rest →
    ∃ v5', forL (objG n) (tgName 5) (seqM (ifM (bin (slot true 5) (slot true 2) inO)
  (seqM (putOwnM 2 (bin (bin (slot true 2) (slot true 5) ixO) (cst (.int 1)) addO) (slot true 5)) skipM)
  skipM) skipM) rest.length pre.length [some (.im (.ref c)), some t, some (.vd (cntKV ps cnt)), some (.im (.ref n)), v4, v5] S = .ok (.nx, [some (.im (.ref c)), some t, some (.vd (cntKV ps fun p => cnt p + rest.count p)), some (.im (.ref n)), v4, v5']) S
  | [], pre, cnt, v4, v5, e => by
    refine ⟨v5, ?_⟩
    rw [List.append_nil] at e
    subst e
    have := forL_obj_end (tgt := tgName 5) (body := (seqM (ifM (bin (slot true 5) (slot true 2) inO)
  (seqM (putOwnM 2 (bin (bin (slot true 2) (slot true 5) ixO) (cst (.int 1)) addO) (slot true 5)) skipM)
  skipM) skipM)) (ρ := [some (.im (.ref c)), some t, some (.vd (cntKV ps cnt)), some (.im (.ref n)), v4, v5]) hn
    rw [List.length_map] at this
    rw [List.length_nil, this]
    simp
  | w :: rest, pre, cnt, v4, v5, e => by
    obtain ⟨v5', ih⟩ := count_add nd hps hn rest (pre ++ [w]) (fun p => if p = w then cnt p + 1 else cnt p) v4 (some (.im (.int w))) (by rw [e]; simp)
    refine ⟨v5', ?_⟩
    have hn2 : S[n]? = some (.lst (pre.map D.int ++ D.int w :: rest.map D.int)) := by rw [hn, e]; simp
    have key := forL_obj_step (tgt := tgName 5) (body := (seqM (ifM (bin (slot true 5) (slot true 2) inO)
  (seqM (putOwnM 2 (bin (bin (slot true 2) (slot true 5) ixO) (cst (.int 1)) addO) (slot true 5)) skipM)
  skipM) skipM)) (ρ := [some (.im (.ref c)), some t, some (.vd (cntKV ps cnt)), some (.im (.ref n)), v4, v5]) (ρ1 := [some (.im (.ref c)), some t, some (.vd (cntKV ps cnt)), some (.im (.ref n)), v4, some (.im (.int w))]) (ρ2 := [some (.im (.ref c)), some t, some (.vd (cntKV ps fun p => if p = w then cnt p + 1 else cnt p)), some (.im (.ref n)), v4, some (.im (.int w))]) (S2 := S) hn2 rfl ?_
    · simp only [List.length_map] at key
      rw [List.length_cons, key]
      simp only [List.length_append, List.length_cons, List.length_nil, Nat.zero_add] at ih
      rw [ih]
      have : (fun p => (if p = w then cnt p + 1 else cnt p) + ((rest.count p : Nat) : Int)) = fun p => cnt p + ((w :: rest).count p : Nat) := by
        funext p
        rw [List.count_cons]
        by_cases h : p = w
        · subst h; simp; omega
        · rw [if_neg h, if_neg (by simpa using Ne.symm h)]; simp
      rw [this]
    · by_cases hw : w ∈ ps
      · have g1 : getK (cntKV ps cnt) (.inl w) = some (.int (cnt w)) := by unfold cntKV; rw [getK_map, if_pos hw]
        have e3 : ixO (.vd (cntKV ps cnt)) (.im (.int w)) S = .ok (.im (.int (cnt w))) S := ixO_vd rfl g1
        have e4 : putT (.vd (cntKV ps cnt)) (.im (.int w)) (.int (cnt w + 1)) = some (.vd (cntKV ps fun p => if p = w then cnt p + 1 else cnt p)) := by
          unfold putT
          simp only [keyD]
          rw [if_pos (by unfold cntKV; simp [line]; omega)]
          unfold cntKV
          rw [putD_map nd hw]
          congr 2
          apply List.map_congr_left
          intro p _
          by_cases h : p = w
          · rw [if_pos h]; simp [h]
          · rw [if_neg h]; simp [h]
        simp only [↓ap_bind, ↓ap_bindS, ↓ap_seqM, ↓ap_skipM, ↓ap_un, ↓ap_bin, ↓ap_slot, ↓ap_cst, ↓ap_andM, ↓ap_orM, ↓ap_notM, ↓ap_iteM, ↓ap_argsN, ↓ap_argsC, ↓ap_tupM, ↓ap_lstM, ↓ap_escM, ↓ap_appA, ↓ap_callM, ↓ap_exprM, ↓ap_retM, ↓ap_retN, ↓ap_ifM, ↓ap_setM, ↓ap_asgM, ↓ap_parM, ↓ap_par3M, ↓ap_putM, ↓ap_putOwnM, ↓ap_putFldM, ↓ap_methM, ↓ap_lmM, ↓ap_appendOwnM, ↓ap_dpopM, ↓ap_dpop2M, ↓ap_chainM, ↓ap_isiM, ↓ap_sliceM, ↓ap_bdN, ↓ap_bdA, ↓ap_lam, startE, List.map_cons, List.map_nil, List.length_cons, List.length_nil, List.replicate, List.cons_append, List.nil_append, List.append_nil, List.set_cons_zero, List.set_cons_succ, List.getElem?_cons_zero, List.getElem?_cons_succ, T.own, Bool.false_and, Bool.true_and, Bool.not_true, Bool.not_false, Bool.and_false, Bool.and_true, reduceIte, Bool.false_eq_true, escs, esc, tgName, tgTup, tgEach, Nat.zero_add, Nat.reduceAdd, Nat.reduceSub, Nat.reduceLeDiff, Nat.reduceLT, Nat.zero_lt_succ, true_and, Nat.reduceEqDiff, line, inO_vd, g1, Option.isSome, e3, addO_i, e4]
      · have g1 : getK (cntKV ps cnt) (.inl w) = none := by unfold cntKV; rw [getK_map, if_neg hw]
        simp only [↓ap_bind, ↓ap_bindS, ↓ap_seqM, ↓ap_skipM, ↓ap_un, ↓ap_bin, ↓ap_slot, ↓ap_cst, ↓ap_andM, ↓ap_orM, ↓ap_notM, ↓ap_iteM, ↓ap_argsN, ↓ap_argsC, ↓ap_tupM, ↓ap_lstM, ↓ap_escM, ↓ap_appA, ↓ap_callM, ↓ap_exprM, ↓ap_retM, ↓ap_retN, ↓ap_ifM, ↓ap_setM, ↓ap_asgM, ↓ap_parM, ↓ap_par3M, ↓ap_putM, ↓ap_putOwnM, ↓ap_putFldM, ↓ap_methM, ↓ap_lmM, ↓ap_appendOwnM, ↓ap_dpopM, ↓ap_dpop2M, ↓ap_chainM, ↓ap_isiM, ↓ap_sliceM, ↓ap_bdN, ↓ap_bdA, ↓ap_lam, startE, List.map_cons, List.map_nil, List.length_cons, List.length_nil, List.replicate, List.cons_append, List.nil_append, List.append_nil, List.set_cons_zero, List.set_cons_succ, List.getElem?_cons_zero, List.getElem?_cons_succ, T.own, Bool.false_and, Bool.true_and, Bool.not_true, Bool.not_false, Bool.and_false, Bool.and_true, reduceIte, Bool.false_eq_true, escs, esc, tgName, tgTup, tgEach, Nat.zero_add, Nat.reduceAdd, Nat.reduceSub, Nat.reduceLeDiff, Nat.reduceLT, Nat.zero_lt_succ, true_and, Nat.reduceEqDiff, line, inO_vd, g1, Option.isSome]
        have e9 : cntKV ps cnt = cntKV ps fun p => if p = w then cnt p + 1 else cnt p := by
          unfold cntKV
          apply List.map_congr_left
          intro p hp
          have : p ≠ w := fun e => hw (e ▸ hp)
          simp [this]
        rw [← e9]
/-- the law's count -/
theorem count_ok {S : Sto} {c : Nat} {held : List Int} {ps : List Int} {sh fl rf rg} (r : Recs S ps sh fl rf rg) (h : S[c]? = some (.dic (cellKV ps rf))) (nd : ps.Nodup) (hf : ∀ p ∈ ps, (fl p).length = 2) (hl : ps.length < 64) (hh : held.length < 100) :
    ∃ S', F__law_count [.im (.ref c), .im (.tup (held.map D.int))] S = .ok (.vd (cntKV ps fun p => ((held ++ ps.flatMap fl).count p : Nat))) S' ∧ Kp S S' := by
  have e1 : lockM 0 (lcM (dictS (slot true 0)) [4] (tgName 4) yesM (tupM (argsM [(slot false 4), (cst (.int 0))]))) [some (.im (.ref c)), some (.im (.tup (held.map D.int))), none, none, none, none] S = .ok (.vl (ps.map fun p => .tup [.int p, .int 0])) S := by
    refine lock_lc (i := 0) rfl h (by omega) fun p hp => ⟨_, rfl, ?_⟩
    simp only [↓ap_bind, ↓ap_bindS, ↓ap_seqM, ↓ap_skipM, ↓ap_un, ↓ap_bin, ↓ap_slot, ↓ap_cst, ↓ap_andM, ↓ap_orM, ↓ap_notM, ↓ap_iteM, ↓ap_argsN, ↓ap_argsC, ↓ap_tupM, ↓ap_lstM, ↓ap_escM, ↓ap_appA, ↓ap_callM, ↓ap_exprM, ↓ap_retM, ↓ap_retN, ↓ap_ifM, ↓ap_setM, ↓ap_asgM, ↓ap_parM, ↓ap_par3M, ↓ap_putM, ↓ap_putOwnM, ↓ap_putFldM, ↓ap_methM, ↓ap_lmM, ↓ap_appendOwnM, ↓ap_dpopM, ↓ap_dpop2M, ↓ap_chainM, ↓ap_isiM, ↓ap_sliceM, ↓ap_bdN, ↓ap_bdA, ↓ap_lam, startE, List.map_cons, List.map_nil, List.length_cons, List.length_nil, List.replicate, List.cons_append, List.nil_append, List.append_nil, List.set_cons_zero, List.set_cons_succ, List.getElem?_cons_zero, List.getElem?_cons_succ, T.own, Bool.false_and, Bool.true_and, Bool.not_true, Bool.not_false, Bool.and_false, Bool.and_true, reduceIte, Bool.false_eq_true, escs, esc, tgName, tgTup, tgEach, Nat.zero_add, Nat.reduceAdd, Nat.reduceSub, Nat.reduceLeDiff, Nat.reduceLT, Nat.zero_lt_succ, true_and, Nat.reduceEqDiff, line, wipeE]
  have e2 : listF [.im (.tup (held.map D.int))] S = .ok (.vl (held.map D.int)) S := rfl
  have h1 := get_app (X := [MO.lst (held.map D.int)]) h
  have hc : (S ++ [MO.lst (held.map D.int)])[c]? = some (.dic (cellKV ps rf)) := h1
  have hcl := get_lt h
  generalize hS2 : (S ++ [MO.lst (held.map D.int)]).set c (.fdic (cellKV ps rf)) = S2
  have hS2c : S2[c]? = some (.fdic (cellKV ps rf)) := by rw [← hS2]; exact get_same hc
  have hS2n : S2[S.length]? = some (.lst (held.map D.int)) := by rw [← hS2, get_ne (by omega)]; exact get_end
  have r2 : Recs S2 ps sh fl rf rg := by rw [← hS2]; exact (r.kp .app).set fun ds e => by rw [hc] at e; cases e
  have hk : ∀ p ∈ ps, getK (cellKV ps rf) (.inl p) = some (.ref (rf p)) := fun p hp => by unfold cellKV; rw [getK_map, if_pos hp]
  obtain ⟨n', v4', S3, e3, k3, hn3⟩ := count_words (c := c) (t := .im (.tup (held.map D.int))) (found := .vd (cntKV ps fun _ => 0)) (v5 := none) r2 hk hf ps held S2 S.length none (fun _ h => h) .refl hS2c hS2n (by omega)
  have hS3c := k3 _ _ hS2c
  have hne : n' ≠ c := fun e => by rw [e, hS3c] at hn3; cases hn3
  have hn4 : (S3.set c (.dic (cellKV ps rf)))[n']? = some (.lst ((held ++ ps.flatMap fl).map D.int)) := by rw [get_ne (Ne.symm hne), hn3]
  obtain ⟨v5', e4⟩ := count_add (c := c) (t := .im (.tup (held.map D.int))) nd (by omega) hn4 (held ++ ps.flatMap fl) [] (fun _ => 0) v4' none rfl
  refine ⟨S3.set c (.dic (cellKV ps rf)), ?_, fun i o hi => ?_⟩
  · have e5 : dictS (slot true 0) [some (.im (.ref c)), some (.im (.tup (held.map D.int))), some (.vd (cntKV ps fun _ => 0)), some (.im (.ref S.length)), none, none] S2 = .ok (constG (ps.map D.int), (ps.map D.int).length) S2 := by
      have : keysD (cellKV ps rf) = ps.map D.int := keysD_map ps
      have l1 : (cellKV ps rf).length = ps.length := by unfold cellKV; simp
      simp only [ap_dictS, ↓ap_bind, ↓ap_bindS, ↓ap_seqM, ↓ap_skipM, ↓ap_un, ↓ap_bin, ↓ap_slot, ↓ap_cst, ↓ap_andM, ↓ap_orM, ↓ap_notM, ↓ap_iteM, ↓ap_argsN, ↓ap_argsC, ↓ap_tupM, ↓ap_lstM, ↓ap_escM, ↓ap_appA, ↓ap_callM, ↓ap_exprM, ↓ap_retM, ↓ap_retN, ↓ap_ifM, ↓ap_setM, ↓ap_asgM, ↓ap_parM, ↓ap_par3M, ↓ap_putM, ↓ap_putOwnM, ↓ap_putFldM, ↓ap_methM, ↓ap_lmM, ↓ap_appendOwnM, ↓ap_dpopM, ↓ap_dpop2M, ↓ap_chainM, ↓ap_isiM, ↓ap_sliceM, ↓ap_bdN, ↓ap_bdA, ↓ap_lam, startE, List.map_cons, List.map_nil, List.length_cons, List.length_nil, List.replicate, List.cons_append, List.nil_append, List.append_nil, List.set_cons_zero, List.set_cons_succ, List.getElem?_cons_zero, List.getElem?_cons_succ, T.own, Bool.false_and, Bool.true_and, Bool.not_true, Bool.not_false, Bool.and_false, Bool.and_true, reduceIte, Bool.false_eq_true, escs, esc, tgName, tgTup, tgEach, Nat.zero_add, Nat.reduceAdd, Nat.reduceSub, Nat.reduceLeDiff, Nat.reduceLT, Nat.zero_lt_succ, true_and, Nat.reduceEqDiff, line, hS2c, this, l1, List.length_map]
    have e6 : seqS (slot false 3) [some (.im (.ref c)), some (.im (.tup (held.map D.int))), some (.vd (cntKV ps fun _ => 0)), some (.im (.ref n')), v4', none] (S3.set c (.dic (cellKV ps rf))) = .ok (objG n', (held ++ ps.flatMap fl).length) (S3.set c (.dic (cellKV ps rf))) := by
      simp only [ap_seqS, ↓ap_bind, ↓ap_bindS, ↓ap_seqM, ↓ap_skipM, ↓ap_un, ↓ap_bin, ↓ap_slot, ↓ap_cst, ↓ap_andM, ↓ap_orM, ↓ap_notM, ↓ap_iteM, ↓ap_argsN, ↓ap_argsC, ↓ap_tupM, ↓ap_lstM, ↓ap_escM, ↓ap_appA, ↓ap_callM, ↓ap_exprM, ↓ap_retM, ↓ap_retN, ↓ap_ifM, ↓ap_setM, ↓ap_asgM, ↓ap_parM, ↓ap_par3M, ↓ap_putM, ↓ap_putOwnM, ↓ap_putFldM, ↓ap_methM, ↓ap_lmM, ↓ap_appendOwnM, ↓ap_dpopM, ↓ap_dpop2M, ↓ap_chainM, ↓ap_isiM, ↓ap_sliceM, ↓ap_bdN, ↓ap_bdA, ↓ap_lam, startE, List.map_cons, List.map_nil, List.length_cons, List.length_nil, List.replicate, List.cons_append, List.nil_append, List.append_nil, List.set_cons_zero, List.set_cons_succ, List.getElem?_cons_zero, List.getElem?_cons_succ, T.own, Bool.false_and, Bool.true_and, Bool.not_true, Bool.not_false, Bool.and_false, Bool.and_true, reduceIte, Bool.false_eq_true, escs, esc, tgName, tgTup, tgEach, Nat.zero_add, Nat.reduceAdd, Nat.reduceSub, Nat.reduceLeDiff, Nat.reduceLT, Nat.zero_lt_succ, true_and, Nat.reduceEqDiff, line, walkOf, hn4, List.length_map]
    rw [F__law_count, ap_runF, m__law_count]
    simp only [↓ap_bind, ↓ap_bindS, ↓ap_seqM, ↓ap_skipM, ↓ap_un, ↓ap_bin, ↓ap_slot, ↓ap_cst, ↓ap_andM, ↓ap_orM, ↓ap_notM, ↓ap_iteM, ↓ap_argsN, ↓ap_argsC, ↓ap_tupM, ↓ap_lstM, ↓ap_escM, ↓ap_appA, ↓ap_callM, ↓ap_exprM, ↓ap_retM, ↓ap_retN, ↓ap_ifM, ↓ap_setM, ↓ap_asgM, ↓ap_parM, ↓ap_par3M, ↓ap_putM, ↓ap_putOwnM, ↓ap_putFldM, ↓ap_methM, ↓ap_lmM, ↓ap_appendOwnM, ↓ap_dpopM, ↓ap_dpop2M, ↓ap_chainM, ↓ap_isiM, ↓ap_sliceM, ↓ap_bdN, ↓ap_bdA, ↓ap_lam, startE, List.map_cons, List.map_nil, List.length_cons, List.length_nil, List.replicate, List.cons_append, List.nil_append, List.append_nil, List.set_cons_zero, List.set_cons_succ, List.getElem?_cons_zero, List.getElem?_cons_succ, T.own, Bool.false_and, Bool.true_and, Bool.not_true, Bool.not_false, Bool.and_false, Bool.and_true, reduceIte, Bool.false_eq_true, escs, esc, tgName, tgTup, tgEach, Nat.zero_add, Nat.reduceAdd, Nat.reduceSub, Nat.reduceLeDiff, Nat.reduceLT, Nat.zero_lt_succ, true_and, Nat.reduceEqDiff, line, e1, e2]
    rw [dictF_map (f := fun _ => .int 0) nd]
    simp only [↓ap_bind, ↓ap_bindS, ↓ap_seqM, ↓ap_skipM, ↓ap_un, ↓ap_bin, ↓ap_slot, ↓ap_cst, ↓ap_andM, ↓ap_orM, ↓ap_notM, ↓ap_iteM, ↓ap_argsN, ↓ap_argsC, ↓ap_tupM, ↓ap_lstM, ↓ap_escM, ↓ap_appA, ↓ap_callM, ↓ap_exprM, ↓ap_retM, ↓ap_retN, ↓ap_ifM, ↓ap_setM, ↓ap_asgM, ↓ap_parM, ↓ap_par3M, ↓ap_putM, ↓ap_putOwnM, ↓ap_putFldM, ↓ap_methM, ↓ap_lmM, ↓ap_appendOwnM, ↓ap_dpopM, ↓ap_dpop2M, ↓ap_chainM, ↓ap_isiM, ↓ap_sliceM, ↓ap_bdN, ↓ap_bdA, ↓ap_lam, startE, List.map_cons, List.map_nil, List.length_cons, List.length_nil, List.replicate, List.cons_append, List.nil_append, List.append_nil, List.set_cons_zero, List.set_cons_succ, List.getElem?_cons_zero, List.getElem?_cons_succ, T.own, Bool.false_and, Bool.true_and, Bool.not_true, Bool.not_false, Bool.and_false, Bool.and_true, reduceIte, Bool.false_eq_true, escs, esc, tgName, tgTup, tgEach, Nat.zero_add, Nat.reduceAdd, Nat.reduceSub, Nat.reduceLeDiff, Nat.reduceLT, Nat.zero_lt_succ, true_and, Nat.reduceEqDiff, line, e2, ap_lockS, hc]
    rw [hS2]
    have e7 : (ps.map fun p => ((Sum.inl p : Key), D.int 0)) = cntKV ps fun _ => 0 := rfl
    simp only [e7]
    rw [forM_const e5, e3]
    simp only [↓ap_bind, ↓ap_bindS, ↓ap_seqM, ↓ap_skipM, ↓ap_un, ↓ap_bin, ↓ap_slot, ↓ap_cst, ↓ap_andM, ↓ap_orM, ↓ap_notM, ↓ap_iteM, ↓ap_argsN, ↓ap_argsC, ↓ap_tupM, ↓ap_lstM, ↓ap_escM, ↓ap_appA, ↓ap_callM, ↓ap_exprM, ↓ap_retM, ↓ap_retN, ↓ap_ifM, ↓ap_setM, ↓ap_asgM, ↓ap_parM, ↓ap_par3M, ↓ap_putM, ↓ap_putOwnM, ↓ap_putFldM, ↓ap_methM, ↓ap_lmM, ↓ap_appendOwnM, ↓ap_dpopM, ↓ap_dpop2M, ↓ap_chainM, ↓ap_isiM, ↓ap_sliceM, ↓ap_bdN, ↓ap_bdA, ↓ap_lam, startE, List.map_cons, List.map_nil, List.length_cons, List.length_nil, List.replicate, List.cons_append, List.nil_append, List.append_nil, List.set_cons_zero, List.set_cons_succ, List.getElem?_cons_zero, List.getElem?_cons_succ, T.own, Bool.false_and, Bool.true_and, Bool.not_true, Bool.not_false, Bool.and_false, Bool.and_true, reduceIte, Bool.false_eq_true, escs, esc, tgName, tgTup, tgEach, Nat.zero_add, Nat.reduceAdd, Nat.reduceSub, Nat.reduceLeDiff, Nat.reduceLT, Nat.zero_lt_succ, true_and, Nat.reduceEqDiff, line, hS3c]
    rw [forM_ref e6]
    simp only [List.length_nil] at e4
    rw [e4]
    simp only [↓ap_bind, ↓ap_bindS, ↓ap_seqM, ↓ap_skipM, ↓ap_un, ↓ap_bin, ↓ap_slot, ↓ap_cst, ↓ap_andM, ↓ap_orM, ↓ap_notM, ↓ap_iteM, ↓ap_argsN, ↓ap_argsC, ↓ap_tupM, ↓ap_lstM, ↓ap_escM, ↓ap_appA, ↓ap_callM, ↓ap_exprM, ↓ap_retM, ↓ap_retN, ↓ap_ifM, ↓ap_setM, ↓ap_asgM, ↓ap_parM, ↓ap_par3M, ↓ap_putM, ↓ap_putOwnM, ↓ap_putFldM, ↓ap_methM, ↓ap_lmM, ↓ap_appendOwnM, ↓ap_dpopM, ↓ap_dpop2M, ↓ap_chainM, ↓ap_isiM, ↓ap_sliceM, ↓ap_bdN, ↓ap_bdA, ↓ap_lam, startE, List.map_cons, List.map_nil, List.length_cons, List.length_nil, List.replicate, List.cons_append, List.nil_append, List.append_nil, List.set_cons_zero, List.set_cons_succ, List.getElem?_cons_zero, List.getElem?_cons_succ, T.own, Bool.false_and, Bool.true_and, Bool.not_true, Bool.not_false, Bool.and_false, Bool.and_true, reduceIte, Bool.false_eq_true, escs, esc, tgName, tgTup, tgEach, Nat.zero_add, Nat.reduceAdd, Nat.reduceSub, Nat.reduceLeDiff, Nat.reduceLT, Nat.zero_lt_succ, true_and, Nat.reduceEqDiff, line, Int.zero_add]
  · by_cases hic : i = c
    · subst hic
      rw [get_same hS3c]
      rw [h] at hi
      exact hi
    · rw [get_ne (Ne.symm hic)]
      apply k3
      rw [← hS2, get_ne (Ne.symm hic)]
      exact get_app hi
end K71

namespace K71
open PySem PySem.Spec DL Giv
open L2 (Key atI ixN)
def baseW : List Int := [1, 3, 2, 7, -5]
def shapesL : List Str := ["link", "pair", "link", "fun"]
theorem mem_cutD {x : D} {ds : List D} {lo hi : Option Int} (h : x ∈ cutD ds lo hi) : x ∈ ds := List.mem_of_mem_drop (List.mem_of_mem_take h)
theorem slO_ref {n : Nat} {ds : List D} {lo hi : Option Int} {ρ : Ev} {S : Sto} (h : S[n]? = some (.lst ds)) : slO (.im (.ref n)) lo hi ρ S = .ok (.vl (cutD ds lo hi)) S := by
  have : slO (.im (.ref n)) lo hi ρ S = (match lstOf S (.im (.ref n)) with
    | some ds => .ok (.vl (cutD ds lo hi)) S
    | none => .stuck) := rfl
  rw [this, lstOf_ref]
  simp only [h]
theorem appendF_ref {S : Sto} {n : Nat} {ds : List D} {d : D} (h : S[n]? = some (.lst ds)) (hl : ds.length < line) : appendF (.im (.ref n)) [.im d] S = .ok (.im .non) (S.set n (.lst (ds ++ [d]))) := by
  unfold appendF
  simp only [h]
  rw [if_pos hl]
/-- one of the words, the last four twice as likely -/
theorem some_words {S : Sto} {a wd : Nat} {x y : Int} {ws : List Int} (h : S[a]? = some (cupO x y)) (hx : 0 ≤ x) (hw : S[wd]? = some (.lst (ws.map D.int))) (hne : a ≠ wd) (hl : 0 < ws.length ∧ ws.length < 100) {ρ : Ev} (h0 : ρ[0]? = some (some (.im (.ref a)))) (h4 : ρ[4]? = some (some (.im (.ref wd)))) :
    ∃ w x' y', callM 2 F__law_some (argsM [(slot false 0), (bin (sliceM (slot true 4) (.at_ (un (cst (.int 4)) negO)) .no) (slot true 4) addO)]) ρ S = .ok (.im (.int w)) (S.set a (cupO x' y')) ∧ w ∈ ws ∧ 0 ≤ x' := by
  have hc := cutD_len (ws.map D.int) (some (-4)) none
  rw [List.length_map] at hc
  obtain ⟨d, x', y', e, hd, hx'⟩ := some_ok (t := .vl (cutD (ws.map D.int) (some (-4)) none ++ ws.map D.int)) (ds := cutD (ws.map D.int) (some (-4)) none ++ ws.map D.int) h hx (fun o => rfl) rfl (by simp; omega)
  have hd2 : d ∈ ws.map D.int := by
    rcases List.mem_append.mp hd with h | h
    · exact mem_cutD h
    · exact h
  obtain ⟨w, hw2, rfl⟩ := List.mem_map.mp hd2
  have e1 : slO (.im (.ref wd)) (some (-4)) none ρ S = .ok (.vl (cutD (ws.map D.int) (some (-4)) none)) S := slO_ref hw
  have e2 : addO (.vl (cutD (ws.map D.int) (some (-4)) none)) (.im (.ref wd)) S = .ok (.vl (cutD (ws.map D.int) (some (-4)) none ++ ws.map D.int)) S := addO_vr hw (by simp [line]; omega)
  refine ⟨w, x', y', ?_, hw2, hx'⟩
  simp only [↓ap_bind, ↓ap_bindS, ↓ap_seqM, ↓ap_skipM, ↓ap_un, ↓ap_bin, ↓ap_slot, ↓ap_cst, ↓ap_andM, ↓ap_orM, ↓ap_notM, ↓ap_iteM, ↓ap_argsN, ↓ap_argsC, ↓ap_tupM, ↓ap_lstM, ↓ap_escM, ↓ap_appA, ↓ap_callM, ↓ap_exprM, ↓ap_retM, ↓ap_retN, ↓ap_ifM, ↓ap_setM, ↓ap_asgM, ↓ap_parM, ↓ap_par3M, ↓ap_putM, ↓ap_putOwnM, ↓ap_putFldM, ↓ap_methM, ↓ap_lmM, ↓ap_appendOwnM, ↓ap_dpopM, ↓ap_dpop2M, ↓ap_chainM, ↓ap_isiM, ↓ap_sliceM, ↓ap_bdN, ↓ap_bdA, ↓ap_lam, startE, List.map_cons, List.map_nil, List.length_cons, List.length_nil, List.replicate, List.cons_append, List.nil_append, List.append_nil, List.set_cons_zero, List.set_cons_succ, List.getElem?_cons_zero, List.getElem?_cons_succ, T.own, Bool.false_and, Bool.true_and, Bool.not_true, Bool.not_false, Bool.and_false, Bool.and_true, reduceIte, Bool.false_eq_true, escs, esc, tgName, tgTup, tgEach, Nat.zero_add, Nat.reduceAdd, Nat.reduceSub, Nat.reduceLeDiff, Nat.reduceLT, Nat.zero_lt_succ, true_and, Nat.reduceEqDiff, line, h0, h4, negO_i, e1, e2, e]
theorem two_words {S : Sto} {a wd : Nat} {x y : Int} {ws : List Int} (h : S[a]? = some (cupO x y)) (hx : 0 ≤ x) (hw : S[wd]? = some (.lst (ws.map D.int))) (hne : a ≠ wd) (hl : 0 < ws.length ∧ ws.length < 100) {v1 v2 v3 v5 v6 v7 v9 v10 v11 : Option T} :
    ∃ w1 w2 x' y', lcM (range1S (slot true 8)) [11] (tgName 11) yesM (callM 2 F__law_some (argsM [(slot false 0), (bin (sliceM (slot true 4) (.at_ (un (cst (.int 4)) negO)) .no) (slot true 4) addO)])) [some (.im (.ref a)), v1, v2, v3, some (.im (.ref wd)), v5, v6, v7, some (.im (.int 2)), v9, v10, v11] S = .ok (.vl [.int w1, .int w2]) (S.set a (cupO x' y')) ∧ w1 ∈ ws ∧ w2 ∈ ws ∧ 0 ≤ x' := by
  have e0 : range1S (slot true 8) [some (.im (.ref a)), v1, v2, v3, some (.im (.ref wd)), v5, v6, v7, some (.im (.int 2)), v9, v10, v11] S = .ok (constG (rangeD 0 2), (rangeD 0 2).length) S := range1S_ok (j := 2) rfl (by omega)
  obtain ⟨w1, x1, y1, e1, m1, hx1⟩ := some_words h hx hw hne hl (ρ := [some (.im (.ref a)), v1, v2, v3, some (.im (.ref wd)), v5, v6, v7, some (.im (.int 2)), v9, v10, some (.im (.int (0 + (0 : Nat))))]) rfl rfl
  obtain ⟨w2, x2, y2, e2, m2, hx2⟩ := some_words (S := S.set a (cupO x1 y1)) (get_same h) hx1 (by rw [get_ne hne]; exact hw) hne hl (ρ := [some (.im (.ref a)), v1, v2, v3, some (.im (.ref wd)), v5, v6, v7, some (.im (.int 2)), v9, v10, some (.im (.int (0 + (1 : Nat))))]) rfl rfl
  refine ⟨w1, w2, x2, y2, ?_, m1, m2, hx2⟩
  rw [lcM_const e0]
  have er : rangeD 0 2 = [.int (0 + (0 : Nat)), .int (0 + (1 : Nat))] := rfl
  rw [er]
  simp only [lcR, tgName, wipeE, List.set_cons_succ, List.set_cons_zero, yesM, e1, e2, List.set_set, List.nil_append, List.length_nil, List.length_cons, List.cons_append]
  rfl
/-- cells as they are being made -/
structure Made (S0 S : Sto) (a sp c wd : Nat) (left ps : List Int) (sh : Int → Str) (fl : Int → List Int) (rf rg : Int → Nat) : Prop where
  g : Gr a S0 S
  hsp : S[sp]? = some (.lst (left.map D.int))
  hc : S[c]? = some (.dic (cellKV ps rf))
  hwd : S[wd]? = some (.lst ((baseW ++ ps).map D.int))
  r : Recs S ps sh fl rf rg
  perm : (ps ++ left).Perm spotsL
  flen : ∀ p ∈ ps, (fl p).length = 2
  shp : ∀ p ∈ ps, sh p ∈ shapesL
  dag : ∀ x p y, ps = x ++ p :: y → ∀ w ∈ fl p, w ∈ baseW ∨ w ∈ x
  lo : S0.length ≤ sp ∧ sp < c ∧ c < wd
  hi : ∀ p ∈ ps, wd < rf p ∧ wd < rg p
theorem spots_nd : spotsL.Nodup := by decide
theorem spots_len : spotsL.length = 24 := rfl
theorem dag_snoc {ps : List Int} {fl : Int → List Int} {B : List Int} {q : Int} {F : List Int} (h : ∀ x p y, ps = x ++ p :: y → ∀ w ∈ fl p, w ∈ B ∨ w ∈ x) (hq : q ∉ ps) (hF : ∀ w ∈ F, w ∈ B ∨ w ∈ ps) : ∀ x p y, ps ++ [q] = x ++ p :: y → ∀ w ∈ (if p = q then F else fl p), w ∈ B ∨ w ∈ x := by
  intro x p y e w hw
  rcases List.eq_nil_or_concat y with rfl | ⟨y', z, rfl⟩
  · have e2 : ps ++ [q] = x ++ [p] := e
    have := List.append_inj' e2 rfl
    obtain ⟨rfl, h2⟩ := this
    cases h2
    rw [if_pos rfl] at hw
    exact hF w hw
  · have e2 : ps ++ [q] = (x ++ p :: y') ++ [z] := by rw [e]; simp
    have := List.append_inj' e2 rfl
    obtain ⟨rfl, h2⟩ := this
    cases h2
    have hpq : p ≠ q := fun e => hq (by simp [e])
    rw [if_neg hpq] at hw
    exact h x p y' rfl w hw
theorem make_loop {S0 : Sto} {a sp c wd : Nat} {v1 v9 v10 v11 : Option T} : ∀ (ds : List D) (S : Sto) (left ps : List Int) (sh : Int → Str) (fl : Int → List Int) (rf rg : Int → Nat) (v5 v6 v7 v8 : Option T), Made S0 S a sp c wd left ps sh fl rf rg → ds.length ≤ left.length →
    ∃ S' left' ps' sh' fl' rf' rg' w5 w6 w7 w8, forR (tgName 5)
  (seqM (setM 6 (callM 2 F__law_some (argsM [(slot false 0), (lstM (argsM [(cst (.str "link")), (cst (.str "pair")), (cst (.str "link")), (cst (.str "fun"))]))]))) (seqM (parM 7 8 (argsM [(lmM popF (slot true 2) (argsM [(cst (.int 0))])), (cst (.int 2))])) (seqM (putM (escM (lstM (argsM [(slot false 6), (lcM (range1S (slot true 8)) [11] (tgName 11) yesM (callM 2 F__law_some (argsM [(slot false 0), (bin (sliceM (slot true 4) (.at_ (un (cst (.int 4)) negO)) .no) (slot true 4) addO)])))]))) (slot true 3) (slot true 7)) (seqM (exprM (lmM appendF (slot true 4) (argsM [(slot true 7)]))) skipM)))) ds [some (.im (.ref a)), v1, some (.im (.ref sp)), some (.im (.ref c)), some (.im (.ref wd)), v5, v6, v7, v8, v9, v10, v11] S = .ok (.nx, [some (.im (.ref a)), v1, some (.im (.ref sp)), some (.im (.ref c)), some (.im (.ref wd)), w5, w6, w7, w8, v9, v10, v11]) S' ∧ Made S0 S' a sp c wd left' ps' sh' fl' rf' rg' ∧ ps'.length = ps.length + ds.length
  | [], S, left, ps, sh, fl, rf, rg, v5, v6, v7, v8, m, hl => ⟨S, left, ps, sh, fl, rf, rg, v5, v6, v7, v8, rfl, m, by simp⟩
  | d :: ds, S, [], ps, sh, fl, rf, rg, v5, v6, v7, v8, m, hl => by simp at hl
  | d :: ds, S, q :: left, ps, sh, fl, rf, rg, v5, v6, v7, v8, m, hl => by
    simp only [List.length_cons] at hl
    obtain ⟨x, y, hcup, hx⟩ := m.g.cup
    have hlt := m.g.lt
    obtain ⟨lo1, lo2, lo3⟩ := m.lo
    have hlen : ps.length < 25 := by have := m.perm.length_eq; rw [spots_len] at this; simp at this; omega
    have nd : (ps ++ q :: left).Nodup := m.perm.nodup_iff.mpr spots_nd
    have hq : q ∉ ps := fun h => by
      have := (List.nodup_append.mp nd).2.2 q h q (by simp)
      exact this rfl
    obtain ⟨d1, x1, y1, e1, md1, hx1⟩ := some_ok (t := .vl (shapesL.map D.str)) (ds := shapesL.map D.str) hcup hx (fun o => rfl) rfl (by decide)
    obtain ⟨s, hs, rfl⟩ := List.mem_map.mp md1
    generalize hS1 : S.set a (cupO x1 y1) = S1 at e1
    have g1 : Gr a S0 S1 := by rw [← hS1]; exact m.g.roll hx1
    have r1 : Recs S1 ps sh fl rf rg := by
      rw [← hS1]
      exact ⟨fun p hp => by rw [get_ne (by have := (m.hi p hp).1; omega), m.r.rcd p hp], fun p hp => by rw [get_ne (by have := (m.hi p hp).2; omega), m.r.fld p hp]⟩
    have hsp1 : S1[sp]? = some (.lst ((q :: left).map D.int)) := by rw [← hS1, get_ne (by omega), m.hsp]
    have hc1 : S1[c]? = some (.dic (cellKV ps rf)) := by rw [← hS1, get_ne (by omega), m.hc]
    have hwd1 : S1[wd]? = some (.lst ((baseW ++ ps).map D.int)) := by rw [← hS1, get_ne (by omega), m.hwd]
    have e2 : popF (.im (.ref sp)) [.im (.int 0)] S1 = .ok (.im (.int q)) (S1.set sp (.lst (left.map D.int))) := popF_i (i := 0) hsp1 rfl (by omega)
    generalize hS2 : S1.set sp (.lst (left.map D.int)) = S2 at e2
    have g2 : Gr a S0 S2 := by rw [← hS2]; exact g1.set lo1
    have r2 : Recs S2 ps sh fl rf rg := by
      rw [← hS2]
      exact ⟨fun p hp => by rw [get_ne (by have := (m.hi p hp).1; omega), r1.rcd p hp], fun p hp => by rw [get_ne (by have := (m.hi p hp).2; omega), r1.fld p hp]⟩
    have hsp2 : S2[sp]? = some (.lst (left.map D.int)) := by rw [← hS2, get_same hsp1]
    have hc2 : S2[c]? = some (.dic (cellKV ps rf)) := by rw [← hS2, get_ne (by omega), hc1]
    have hwd2 : S2[wd]? = some (.lst ((baseW ++ ps).map D.int)) := by rw [← hS2, get_ne (by omega), hwd1]
    obtain ⟨x2, y2, hcup2, hx2⟩ := g2.cup
    obtain ⟨w1, w2, x3, y3, e3, mw1, mw2, hx3⟩ := two_words (v1 := v1) (v2 := some (.im (.ref sp))) (v3 := some (.im (.ref c))) (v5 := some (.im d)) (v6 := some (.im (.str s))) (v7 := some (.im (.int q))) (v9 := v9) (v10 := v10) (v11 := v11) hcup2 hx2 hwd2 (by omega) (by simp [baseW]; omega)
    generalize hS3 : S2.set a (cupO x3 y3) = S3 at e3
    have g3 : Gr a S0 S3 := by rw [← hS3]; exact g2.roll hx3
    have r3 : Recs S3 ps sh fl rf rg := by
      rw [← hS3]
      exact ⟨fun p hp => by rw [get_ne (by have := (m.hi p hp).1; omega), r2.rcd p hp], fun p hp => by rw [get_ne (by have := (m.hi p hp).2; omega), r2.fld p hp]⟩
    have hsp3 : S3[sp]? = some (.lst (left.map D.int)) := by rw [← hS3, get_ne (by omega), hsp2]
    have hc3 : S3[c]? = some (.dic (cellKV ps rf)) := by rw [← hS3, get_ne (by omega), hc2]
    have hwd3 : S3[wd]? = some (.lst ((baseW ++ ps).map D.int)) := by rw [← hS3, get_ne (by omega), hwd2]
    have hwl := get_lt hwd3
    generalize hS4 : (S3 ++ [MO.lst [.int w1, .int w2]]) ++ [MO.lst [.str s, .ref S3.length]] = S4
    have l4 : (S3 ++ [MO.lst [.int w1, .int w2]]).length = S3.length + 1 := by simp
    have k4 : Kp S3 S4 := by rw [← hS4]; exact Kp.app.trans Kp.app
    have g4 : Gr a S0 S4 := g3.kp k4
    have hfl4 : S4[S3.length]? = some (.lst [.int w1, .int w2]) := by rw [← hS4]; exact get_app get_end
    have hrc4 : S4[S3.length + 1]? = some (.lst [.str s, .ref S3.length]) := by rw [← hS4, ← l4]; exact get_end
    have hc4 := k4 _ _ hc3
    have hnk : (Sum.inl q : Key) ∉ (cellKV ps rf).map (·.1) := by
      unfold cellKV
      rw [keys_map]
      intro h
      obtain ⟨z, hz, e⟩ := List.mem_map.mp h
      cases e
      exact hq hz
    have e4 : putO (.dic (cellKV ps rf)) (.im (.int q)) (.ref (S3.length + 1)) = some (.dic (cellKV ps rf ++ [(.inl q, .ref (S3.length + 1))])) := by
      unfold putO
      simp only [keyD]
      rw [if_pos (by unfold cellKV; simp [line]; omega), putD_app hnk]
    have ekv : cellKV ps rf ++ [(.inl q, .ref (S3.length + 1))] = cellKV (ps ++ [q]) (fun p => if p = q then S3.length + 1 else rf p) := by
      unfold cellKV
      rw [List.map_append]
      simp only [List.map_cons, List.map_nil, if_true]
      congr 1
      apply List.map_congr_left
      intro p hp
      rw [if_neg (fun e : p = q => hq (e ▸ hp))]
    rw [ekv] at e4
    generalize hS5 : S4.set c (.dic (cellKV (ps ++ [q]) (fun p => if p = q then S3.length + 1 else rf p))) = S5
    have g5 : Gr a S0 S5 := by rw [← hS5]; exact g4.set (by omega)
    have hwd5 : S5[wd]? = some (.lst ((baseW ++ ps).map D.int)) := by rw [← hS5, get_ne (by omega)]; exact k4 _ _ hwd3
    have e5 := appendF_ref (d := .int q) hwd5 (by simp [baseW, line]; omega)
    have ewd : (baseW ++ ps).map D.int ++ [D.int q] = (baseW ++ (ps ++ [q])).map D.int := by simp
    rw [ewd] at e5
    generalize hS6 : S5.set wd (.lst ((baseW ++ (ps ++ [q])).map D.int)) = S6 at e5
    have m6 : Made S0 S6 a sp c wd left (ps ++ [q]) (fun p => if p = q then s else sh p) (fun p => if p = q then [w1, w2] else fl p) (fun p => if p = q then S3.length + 1 else rf p) (fun p => if p = q then S3.length else rg p) := by
      have up : ∀ i o, i ≠ c → i ≠ wd → S4[i]? = some o → S6[i]? = some o := fun i o h1 h2 h => by
        rw [← hS6, get_ne (Ne.symm h2), ← hS5, get_ne (Ne.symm h1), h]
      refine ⟨by rw [← hS6]; exact g5.set (by omega), up _ _ (by omega) (by omega) (k4 _ _ hsp3), ?_, ?_, ⟨fun p hp => ?_, fun p hp => ?_⟩, ?_, fun p hp => ?_, fun p hp => ?_, ?_, ⟨lo1, lo2, lo3⟩, fun p hp => ?_⟩
      · rw [← hS6, get_ne (by omega), ← hS5]; exact get_same hc4
      · rw [← hS6]; exact get_same hwd5
      · by_cases e : p = q
        · simp only [e, if_true]
          exact up _ _ (by omega) (by omega) hrc4
        · simp only [e, if_false]
          have hp : p ∈ ps := by simpa [e] using hp
          have := m.hi p hp
          exact up _ _ (by omega) (by omega) (k4 _ _ (r3.rcd p hp))
      · by_cases e : p = q
        · simp only [e, if_true]
          exact up _ _ (by omega) (by omega) hfl4
        · simp only [e, if_false]
          have hp : p ∈ ps := by simpa [e] using hp
          have := m.hi p hp
          exact up _ _ (by omega) (by omega) (k4 _ _ (r3.fld p hp))
      · rw [List.append_assoc]; exact m.perm
      · by_cases e : p = q
        · simp only [e, if_true]; rfl
        · simp only [e, if_false]
          exact m.flen p (by simpa [e] using hp)
      · by_cases e : p = q
        · simp only [e, if_true]; exact hs
        · simp only [e, if_false]
          exact m.shp p (by simpa [e] using hp)
      · refine dag_snoc m.dag hq fun w hw => ?_
        have : w ∈ baseW ++ ps := by
          simp only [List.mem_cons, List.not_mem_nil, or_false] at hw
          rcases hw with rfl | rfl
          · exact mw1
          · exact mw2
        exact List.mem_append.mp this
      · by_cases e : p = q
        · simp only [e, if_true]; omega
        · simp only [e, if_false]
          exact m.hi p (by simpa [e] using hp)
    obtain ⟨S', left', ps', sh', fl', rf', rg', z5, z6, z7, z8, e, m', hl'⟩ := make_loop (v1 := v1) (v9 := v9) (v10 := v10) (v11 := v11) ds S6 left _ _ _ _ _ (some (.im d)) (some (.im (.str s))) (some (.im (.int q))) (some (.im (.int 2))) m6 (by omega)
    refine ⟨S', left', ps', sh', fl', rf', rg', z5, z6, z7, z8, ?_, m', by rw [hl']; simp; omega⟩
    have esh : [D.str "link", D.str "pair", D.str "link", D.str "fun"] = shapesL.map D.str := rfl
    rw [forR]
    simp only [↓ap_bind, ↓ap_bindS, ↓ap_seqM, ↓ap_skipM, ↓ap_un, ↓ap_bin, ↓ap_slot, ↓ap_cst, ↓ap_andM, ↓ap_orM, ↓ap_notM, ↓ap_iteM, ↓ap_argsN, ↓ap_argsC, ↓ap_tupM, ↓ap_lstM, ↓ap_escM, ↓ap_appA, ↓ap_callM, ↓ap_exprM, ↓ap_retM, ↓ap_retN, ↓ap_ifM, ↓ap_setM, ↓ap_asgM, ↓ap_parM, ↓ap_par3M, ↓ap_putM, ↓ap_putOwnM, ↓ap_putFldM, ↓ap_methM, ↓ap_lmM, ↓ap_appendOwnM, ↓ap_dpopM, ↓ap_dpop2M, ↓ap_chainM, ↓ap_isiM, ↓ap_sliceM, ↓ap_bdN, ↓ap_bdA, ↓ap_lam, startE, List.map_cons, List.map_nil, List.length_cons, List.length_nil, List.replicate, List.cons_append, List.nil_append, List.append_nil, List.set_cons_zero, List.set_cons_succ, List.getElem?_cons_zero, List.getElem?_cons_succ, T.own, Bool.false_and, Bool.true_and, Bool.not_true, Bool.not_false, Bool.and_false, Bool.and_true, reduceIte, Bool.false_eq_true, escs, esc, tgName, tgTup, tgEach, Nat.zero_add, Nat.reduceAdd, Nat.reduceSub, Nat.reduceLeDiff, Nat.reduceLT, Nat.zero_lt_succ, true_and, Nat.reduceEqDiff, line, esh, e1, isLst_ref hsp1, e2, e3, l4, hS4, hc4, e4, hS5, isLst_ref hwd5, e5]
    exact e
end K71

namespace K71
open PySem PySem.Spec DL Giv
open L2 (Key atI ixN)
theorem eqT_i {S : Sto} {i j : Int} : eqT S (.im (.int i)) (.im (.int j)) = some (decide (i = j)) := by
  show eqvO (some (.int i)) (some (.int j)) = _
  unfold eqvO
  simp only
  rw [if_pos (by simp [PyData.canLay0, PyData.depth])]
  congr 1
theorem eqO_i {S : Sto} {i j : Int} : DL.eqO (.im (.int i)) (.im (.int j)) S = .ok (.im (.bl (decide (i = j)))) S := by
  unfold DL.eqO
  rw [eqT_i]
theorem held_loop {S0 : Sto} {a hn wd : Nat} {ws : List Int} {v1 v2 v3 v6 v7 v8 v9 v11 : Option T} (hne : a ≠ wd ∧ hn ≠ wd ∧ S0.length ≤ hn) (hl : 0 < ws.length ∧ ws.length < 100) : ∀ (ds : List D) (S : Sto) (held : List Int) (v5 : Option T), Gr a S0 S → S[wd]? = some (.lst (ws.map D.int)) → S[hn]? = some (.lst (held.map D.int)) → ds.length + held.length < 100 →
    ∃ S' more w5, forR (tgName 5)
  (seqM (exprM (lmM appendF (slot true 10) (argsM [(callM 2 F__law_some (argsM [(slot false 0), (slot false 4)]))]))) skipM) ds [some (.im (.ref a)), v1, v2, v3, some (.im (.ref wd)), v5, v6, v7, v8, v9, some (.im (.ref hn)), v11] S = .ok (.nx, [some (.im (.ref a)), v1, v2, v3, some (.im (.ref wd)), w5, v6, v7, v8, v9, some (.im (.ref hn)), v11]) S' ∧ Gr a S0 S' ∧ S'[hn]? = some (.lst ((held ++ more).map D.int)) ∧ (∀ w ∈ more, w ∈ ws) ∧ more.length = ds.length ∧ ∀ i o, i ≠ a → i ≠ hn → S[i]? = some o → S'[i]? = some o
  | [], S, held, v5, g, hw, hh, hb => ⟨S, [], v5, rfl, g, by simpa using hh, by simp, rfl, fun i o _ _ h => h⟩
  | d :: ds, S, held, v5, g, hw, hh, hb => by
    simp only [List.length_cons] at hb
    obtain ⟨x, y, hc, hx⟩ := g.cup
    have hlt := g.lt
    obtain ⟨d1, x1, y1, e1, md, hx1⟩ := some_ok (t := .im (.ref wd)) (ds := ws.map D.int) hc hx (fun o => by rw [seqOf_ref, get_ne hne.1, hw]) (by rw [seqOf_ref, hw]) (by simpa using ⟨by omega, by omega⟩)
    obtain ⟨w, hw2, rfl⟩ := List.mem_map.mp md
    generalize hS1 : S.set a (cupO x1 y1) = S1 at e1
    have g1 : Gr a S0 S1 := by rw [← hS1]; exact g.roll hx1
    have hh1 : S1[hn]? = some (.lst (held.map D.int)) := by rw [← hS1, get_ne (by omega), hh]
    have hw1 : S1[wd]? = some (.lst (ws.map D.int)) := by rw [← hS1, get_ne hne.1, hw]
    have e2 := appendF_ref (d := .int w) hh1 (by simp [line]; omega)
    have e3 : held.map D.int ++ [D.int w] = (held ++ [w]).map D.int := by simp
    rw [e3] at e2
    obtain ⟨S', more, w5, e, g', h', m', l', kk⟩ := held_loop (v1 := v1) (v2 := v2) (v3 := v3) (v6 := v6) (v7 := v7) (v8 := v8) (v9 := v9) (v11 := v11) hne hl ds (S1.set hn (.lst ((held ++ [w]).map D.int))) (held ++ [w]) (some (.im d)) (g1.set hne.2.2) (by rw [get_ne hne.2.1]; exact hw1) (get_same hh1) (by simp; omega)
    refine ⟨S', w :: more, w5, ?_, g', by simpa using h', fun z hz => ?_, by simp [l'], fun i o h1 h2 h3 => kk i o h1 h2 ?_⟩
    · rw [forR]
      simp only [↓ap_bind, ↓ap_bindS, ↓ap_seqM, ↓ap_skipM, ↓ap_un, ↓ap_bin, ↓ap_slot, ↓ap_cst, ↓ap_andM, ↓ap_orM, ↓ap_notM, ↓ap_iteM, ↓ap_argsN, ↓ap_argsC, ↓ap_tupM, ↓ap_lstM, ↓ap_escM, ↓ap_appA, ↓ap_callM, ↓ap_exprM, ↓ap_retM, ↓ap_retN, ↓ap_ifM, ↓ap_setM, ↓ap_asgM, ↓ap_parM, ↓ap_par3M, ↓ap_putM, ↓ap_putOwnM, ↓ap_putFldM, ↓ap_methM, ↓ap_lmM, ↓ap_appendOwnM, ↓ap_dpopM, ↓ap_dpop2M, ↓ap_chainM, ↓ap_isiM, ↓ap_sliceM, ↓ap_bdN, ↓ap_bdA, ↓ap_lam, startE, List.map_cons, List.map_nil, List.length_cons, List.length_nil, List.replicate, List.cons_append, List.nil_append, List.append_nil, List.set_cons_zero, List.set_cons_succ, List.getElem?_cons_zero, List.getElem?_cons_succ, T.own, Bool.false_and, Bool.true_and, Bool.not_true, Bool.not_false, Bool.and_false, Bool.and_true, reduceIte, Bool.false_eq_true, escs, esc, tgName, tgTup, tgEach, Nat.zero_add, Nat.reduceAdd, Nat.reduceSub, Nat.reduceLeDiff, Nat.reduceLT, Nat.zero_lt_succ, true_and, Nat.reduceEqDiff, line, isLst_ref hh, e1, e2]
      exact e
    · rcases List.mem_cons.mp hz with rfl | hz
      · exact hw2
      · exact m' z hz
    · rw [get_ne (Ne.symm h2), ← hS1, get_ne (Ne.symm h1), h3]
/-- what the law builds -/
structure Shared (S S' : Sto) (a c : Nat) (ps : List Int) (sh : Int → Str) (fl : Int → List Int) (rf rg : Int → Nat) (held : List Int) : Prop where
  g : Gr a S S'
  lo : S.length ≤ c
  hc : S'[c]? = some (.dic (cellKV ps rf))
  r : Recs S' ps sh fl rf rg
  nd : ps.Nodup
  len : ps.length < 20
  spot : ∀ p ∈ ps, p ∈ spotsL
  flen : ∀ p ∈ ps, (fl p).length = 2
  shp : ∀ p ∈ ps, sh p ∈ shapesL
  dag : ∀ x p y, ps = x ++ p :: y → ∀ w ∈ fl p, w ∈ baseW ∨ w ∈ x
  root : ∀ p ∈ ps, (ps.flatMap fl).count p = 0 → p ∈ held
  hw : ∀ w ∈ held, w ∈ baseW ∨ w ∈ ps
  hlen : held.length < 50
  hi : ∀ p ∈ ps, c < rf p ∧ c < rg p
theorem shared_ok {S : Sto} {a n : Nat} {x y : Int} (h : S[a]? = some (cupO x y)) (hx : 0 ≤ x) (hn : n < 20) : ∃ S' c ps sh fl rf rg held, F__law_shared [.im (.ref a), .im (.int n)] S = .ok (.im (.tup [.ref c, .tup (held.map D.int)])) S' ∧ Shared S S' a c ps sh fl rf rg held := by
  obtain ⟨l, S1, e1, g1, pm⟩ := spots_ok h hx
  have hl : l.length = 24 := pm.length_eq.trans spots_len
  generalize hS2 : S1 ++ [MO.lst (l.map D.int)] ++ [MO.dic []] ++ [MO.lst (baseW.map D.int)] = S2
  have l1 : (S1 ++ [MO.lst (l.map D.int)]).length = S1.length + 1 := by simp
  have l2 : (S1 ++ [MO.lst (l.map D.int)] ++ [MO.dic []]).length = S1.length + 2 := by simp
  have k2 : Kp S1 S2 := by rw [← hS2]; exact (Kp.app.trans .app).trans .app
  have m2 : Made S S2 a S1.length (S1.length + 1) (S1.length + 2) l [] (fun _ => "") (fun _ => []) (fun _ => 0) (fun _ => 0) :=
    ⟨g1.kp k2, by rw [← hS2]; exact get_app (get_app get_end), by rw [← hS2, ← l1]; exact get_app get_end, by rw [← hS2, ← l2]; exact get_end, ⟨fun p hp => by simp at hp, fun p hp => by simp at hp⟩, by simpa using pm, by simp, by simp, by simp, ⟨g1.le, by omega, by omega⟩, by simp⟩
  obtain ⟨S3, left, ps, sh, fl, rf, rg, z5, z6, z7, z8, e3, m3, hps⟩ := make_loop (v1 := some (.im (.int n))) (v9 := none) (v10 := none) (v11 := none) (rangeD 0 n) S2 l [] _ _ _ _ none none none none m2 (by rw [rangeD_len]; omega)
  rw [rangeD_len] at hps
  have hps : ps.length = n := by simpa using hps
  obtain ⟨lo1, lo2, lo3⟩ := m3.lo
  have nd2 : (ps ++ left).Nodup := m3.perm.nodup_iff.mpr spots_nd
  have nd := (List.nodup_append.mp nd2).1
  obtain ⟨S4, e4, k4⟩ := count_ok (held := []) m3.r m3.hc nd m3.flen (by omega) (by simp)
  generalize hcn : (fun p => ((([] : List Int) ++ ps.flatMap fl).count p : Int)) = cn at e4
  have hcnp : ∀ p, cn p = ((ps.flatMap fl).count p : Nat) := fun p => by rw [← hcn]; simp
  have hc5 : (S4 ++ [MO.dic (cntKV ps cn)])[S1.length + 1]? = some (.dic (cellKV ps rf)) := (k4.trans .app) _ _ m3.hc
  generalize hS5 : S4 ++ [MO.dic (cntKV ps cn)] = S5 at hc5
  have hn5 : S5[S4.length]? = some (.dic (cntKV ps cn)) := by rw [← hS5]; exact get_end
  have k5 : Kp S3 S5 := by rw [← hS5]; exact k4.trans .app
  have e6 : seqS (appA (argsM [(slot true 3)]) sortedF) [some (.im (.ref a)), some (.im (.int n)), some (.im (.ref S1.length)), some (.im (.ref (S1.length + 1))), some (.im (.ref (S1.length + 2))), z5, z6, z7, z8, some (.im (.ref S4.length)), none, none] S5 = .ok (constG ((sortI ps).map D.int), ((sortI ps).map D.int).length) S5 := by
    simp only [ap_seqS, ↓ap_bind, ↓ap_bindS, ↓ap_seqM, ↓ap_skipM, ↓ap_un, ↓ap_bin, ↓ap_slot, ↓ap_cst, ↓ap_andM, ↓ap_orM, ↓ap_notM, ↓ap_iteM, ↓ap_argsN, ↓ap_argsC, ↓ap_tupM, ↓ap_lstM, ↓ap_escM, ↓ap_appA, ↓ap_callM, ↓ap_exprM, ↓ap_retM, ↓ap_retN, ↓ap_ifM, ↓ap_setM, ↓ap_asgM, ↓ap_parM, ↓ap_par3M, ↓ap_putM, ↓ap_putOwnM, ↓ap_putFldM, ↓ap_methM, ↓ap_lmM, ↓ap_appendOwnM, ↓ap_dpopM, ↓ap_dpop2M, ↓ap_chainM, ↓ap_isiM, ↓ap_sliceM, ↓ap_bdN, ↓ap_bdA, ↓ap_lam, startE, List.map_cons, List.map_nil, List.length_cons, List.length_nil, List.replicate, List.cons_append, List.nil_append, List.append_nil, List.set_cons_zero, List.set_cons_succ, List.getElem?_cons_zero, List.getElem?_cons_succ, T.own, Bool.false_and, Bool.true_and, Bool.not_true, Bool.not_false, Bool.and_false, Bool.and_true, reduceIte, Bool.false_eq_true, escs, esc, tgName, tgTup, tgEach, Nat.zero_add, Nat.reduceAdd, Nat.reduceSub, Nat.reduceLeDiff, Nat.reduceLT, Nat.zero_lt_succ, true_and, Nat.reduceEqDiff, line, sorted_dic hc5 (by omega), walkOf]
  have e7 : lcM (seqS (appA (argsM [(slot true 3)]) sortedF)) [7] (tgName 7) (bin (bin (slot true 9) (slot true 7) ixO) (cst (.int 0)) DL.eqO) (slot true 7) [some (.im (.ref a)), some (.im (.int n)), some (.im (.ref S1.length)), some (.im (.ref (S1.length + 1))), some (.im (.ref (S1.length + 2))), z5, z6, z7, z8, some (.im (.ref S4.length)), none, none] S5 = .ok (.vl (((sortI ps).filter fun p => decide (cn p = 0)).map D.int)) S5 := by
    rw [lcM_const e6, lcR_filter (p := fun d => match d with | .int p => decide (cn p = 0) | _ => false) (f := id)]
    · rw [List.filter_map]
      simp only [List.map_id_fun, id, List.nil_append]
      rfl
    · intro d hd
      obtain ⟨p, hp, rfl⟩ := List.mem_map.mp hd
      rw [mem_sortI] at hp
      refine ⟨_, rfl, ?_, fun _ => ?_⟩
      · have g1 : getK (cntKV ps cn) (.inl p) = some (.int (cn p)) := by unfold cntKV; rw [getK_map, if_pos hp]
        simp only [↓ap_bind, ↓ap_bindS, ↓ap_seqM, ↓ap_skipM, ↓ap_un, ↓ap_bin, ↓ap_slot, ↓ap_cst, ↓ap_andM, ↓ap_orM, ↓ap_notM, ↓ap_iteM, ↓ap_argsN, ↓ap_argsC, ↓ap_tupM, ↓ap_lstM, ↓ap_escM, ↓ap_appA, ↓ap_callM, ↓ap_exprM, ↓ap_retM, ↓ap_retN, ↓ap_ifM, ↓ap_setM, ↓ap_asgM, ↓ap_parM, ↓ap_par3M, ↓ap_putM, ↓ap_putOwnM, ↓ap_putFldM, ↓ap_methM, ↓ap_lmM, ↓ap_appendOwnM, ↓ap_dpopM, ↓ap_dpop2M, ↓ap_chainM, ↓ap_isiM, ↓ap_sliceM, ↓ap_bdN, ↓ap_bdA, ↓ap_lam, startE, List.map_cons, List.map_nil, List.length_cons, List.length_nil, List.replicate, List.cons_append, List.nil_append, List.append_nil, List.set_cons_zero, List.set_cons_succ, List.getElem?_cons_zero, List.getElem?_cons_succ, T.own, Bool.false_and, Bool.true_and, Bool.not_true, Bool.not_false, Bool.and_false, Bool.and_true, reduceIte, Bool.false_eq_true, escs, esc, tgName, tgTup, tgEach, Nat.zero_add, Nat.reduceAdd, Nat.reduceSub, Nat.reduceLeDiff, Nat.reduceLT, Nat.zero_lt_succ, true_and, Nat.reduceEqDiff, line, wipeE, ix_ref, seqOf_ref, dicOf_ref, hn5, keyD, g1, eqO_i]
      · simp only [↓ap_bind, ↓ap_bindS, ↓ap_seqM, ↓ap_skipM, ↓ap_un, ↓ap_bin, ↓ap_slot, ↓ap_cst, ↓ap_andM, ↓ap_orM, ↓ap_notM, ↓ap_iteM, ↓ap_argsN, ↓ap_argsC, ↓ap_tupM, ↓ap_lstM, ↓ap_escM, ↓ap_appA, ↓ap_callM, ↓ap_exprM, ↓ap_retM, ↓ap_retN, ↓ap_ifM, ↓ap_setM, ↓ap_asgM, ↓ap_parM, ↓ap_par3M, ↓ap_putM, ↓ap_putOwnM, ↓ap_putFldM, ↓ap_methM, ↓ap_lmM, ↓ap_appendOwnM, ↓ap_dpopM, ↓ap_dpop2M, ↓ap_chainM, ↓ap_isiM, ↓ap_sliceM, ↓ap_bdN, ↓ap_bdA, ↓ap_lam, startE, List.map_cons, List.map_nil, List.length_cons, List.length_nil, List.replicate, List.cons_append, List.nil_append, List.append_nil, List.set_cons_zero, List.set_cons_succ, List.getElem?_cons_zero, List.getElem?_cons_succ, T.own, Bool.false_and, Bool.true_and, Bool.not_true, Bool.not_false, Bool.and_false, Bool.and_true, reduceIte, Bool.false_eq_true, escs, esc, tgName, tgTup, tgEach, Nat.zero_add, Nat.reduceAdd, Nat.reduceSub, Nat.reduceLeDiff, Nat.reduceLT, Nat.zero_lt_succ, true_and, Nat.reduceEqDiff, line, wipeE]
        rfl
    · have := (sortI_perm ps).length_eq
      simp [line]; omega
  generalize hh0 : (sortI ps).filter (fun p => decide (cn p = 0)) = held0 at e7
  have lh0 : held0.length ≤ ps.length := by rw [← hh0, ← (sortI_perm ps).length_eq]; exact List.length_filter_le _ _
  generalize hS6 : S5 ++ [MO.lst (held0.map D.int)] = S6
  have k6 : Kp S3 S6 := by rw [← hS6]; exact k5.trans .app
  have g6 : Gr a S S6 := m3.g.kp k6
  have hn6 : S6[S5.length]? = some (.lst (held0.map D.int)) := by rw [← hS6]; exact get_end
  obtain ⟨x6, y6, hc6, hx6⟩ := g6.cup
  obtain ⟨r, x7, y7, e8, r1, r2, hx7⟩ := roll_ok (m := 3) hc6 hx6 (by omega)
  generalize hS7 : S6.set a (cupO x7 y7) = S7 at e8
  have g7 : Gr a S S7 := by rw [← hS7]; exact g6.roll hx7
  have hlt := g7.lt
  have hwd7 : S7[S1.length + 2]? = some (.lst ((baseW ++ ps).map D.int)) := by rw [← hS7, get_ne (by omega)]; exact k6 _ _ m3.hwd
  have hS4len : S4.length + 1 = S5.length := by rw [← hS5]; simp
  have hle4 : S1.length + 2 < S4.length := get_lt (k4 _ _ m3.hwd)
  have hn7 : S7[S5.length]? = some (.lst (held0.map D.int)) := by rw [← hS7, get_ne (by omega), hn6]
  have e9 : range1S (callM 2 F__law_roll (argsM [(slot false 0), (cst (.int 3))])) [some (.im (.ref a)), some (.im (.int n)), some (.im (.ref S1.length)), some (.im (.ref (S1.length + 1))), some (.im (.ref (S1.length + 2))), z5, z6, z7, z8, some (.im (.ref S4.length)), some (.im (.ref S5.length)), none] S6 = .ok (constG (rangeD 0 r.toNat), (rangeD 0 r.toNat).length) S7 := by
    refine range1S_ok ?_ (by omega)
    simp only [↓ap_bind, ↓ap_bindS, ↓ap_seqM, ↓ap_skipM, ↓ap_un, ↓ap_bin, ↓ap_slot, ↓ap_cst, ↓ap_andM, ↓ap_orM, ↓ap_notM, ↓ap_iteM, ↓ap_argsN, ↓ap_argsC, ↓ap_tupM, ↓ap_lstM, ↓ap_escM, ↓ap_appA, ↓ap_callM, ↓ap_exprM, ↓ap_retM, ↓ap_retN, ↓ap_ifM, ↓ap_setM, ↓ap_asgM, ↓ap_parM, ↓ap_par3M, ↓ap_putM, ↓ap_putOwnM, ↓ap_putFldM, ↓ap_methM, ↓ap_lmM, ↓ap_appendOwnM, ↓ap_dpopM, ↓ap_dpop2M, ↓ap_chainM, ↓ap_isiM, ↓ap_sliceM, ↓ap_bdN, ↓ap_bdA, ↓ap_lam, startE, List.map_cons, List.map_nil, List.length_cons, List.length_nil, List.replicate, List.cons_append, List.nil_append, List.append_nil, List.set_cons_zero, List.set_cons_succ, List.getElem?_cons_zero, List.getElem?_cons_succ, T.own, Bool.false_and, Bool.true_and, Bool.not_true, Bool.not_false, Bool.and_false, Bool.and_true, reduceIte, Bool.false_eq_true, escs, esc, tgName, tgTup, tgEach, Nat.zero_add, Nat.reduceAdd, Nat.reduceSub, Nat.reduceLeDiff, Nat.reduceLT, Nat.zero_lt_succ, true_and, Nat.reduceEqDiff, line, e8]
  have hbl : baseW.length = 5 := rfl
  obtain ⟨S8, more, w5, e10, g8, h8, mm, ml, kk⟩ := held_loop (v1 := some (.im (.int n))) (v2 := some (.im (.ref S1.length))) (v3 := some (.im (.ref (S1.length + 1)))) (v6 := z6) (v7 := z7) (v8 := z8) (v9 := some (.im (.ref S4.length))) (v11 := none) (a := a) (hn := S5.length) (wd := S1.length + 2) (ws := baseW ++ ps) ⟨by omega, by omega, by omega⟩ (by rw [List.length_append, hbl]; omega) (rangeD 0 r.toNat) S7 held0 z5 g7 hwd7 hn7 (by rw [rangeD_len]; omega)
  rw [rangeD_len] at ml
  have up : ∀ (i : Nat) (o : MO), i ≠ a → i ≠ S5.length → S6[i]? = some o → S8[i]? = some o := fun i o h1 h2 h3 => kk i o h1 h2 (by rw [← hS7, get_ne (Ne.symm h1), h3])
  refine ⟨S8, S1.length + 1, ps, sh, fl, rf, rg, held0 ++ more, ?_, g8, by have := g1.le; omega, up _ _ (by omega) (by omega) (k6 _ _ m3.hc), ⟨fun p hp => ?_, fun p hp => ?_⟩, nd, by omega, fun p hp => m3.perm.mem_iff.mp (by simp [hp]), m3.flen, m3.shp, m3.dag, fun p hp h0 => ?_, fun w hw => ?_, by rw [List.length_append]; omega, fun p hp => by have := m3.hi p hp; omega⟩
  · have er : range1S (slot true 1) [some (.im (.ref a)), some (.im (.int n)), some (.im (.ref S1.length)), some (.im (.ref (S1.length + 1))), some (.im (.ref (S1.length + 2))), none, none, none, none, none, none, none] S2 = .ok (constG (rangeD 0 n), (rangeD 0 n).length) S2 := by
      have := range1S_ok (m := slot true 1) (ρ := [some (.im (.ref a)), some (.im (.int n)), some (.im (.ref S1.length)), some (.im (.ref (S1.length + 1))), some (.im (.ref (S1.length + 2))), none, none, none, none, none, none, none]) (S := S2) (S1 := S2) (j := n) rfl (by omega)
      simpa using this
    have ebw : [D.int 1, D.int 3, D.int 2, D.int 7, D.int (-5)] = baseW.map D.int := rfl
    have eF := (forM_const er).trans e3
    have eH := (forM_const e9).trans e10
    simp only [List.map_nil] at e4
    rw [F__law_shared, ap_runF, m__law_shared]
    simp only [↓ap_bind, ↓ap_bindS, ↓ap_seqM, ↓ap_skipM, ↓ap_un, ↓ap_bin, ↓ap_slot, ↓ap_cst, ↓ap_andM, ↓ap_orM, ↓ap_notM, ↓ap_iteM, ↓ap_argsN, ↓ap_argsC, ↓ap_tupM, ↓ap_lstM, ↓ap_escM, ↓ap_appA, ↓ap_callM, ↓ap_exprM, ↓ap_retM, ↓ap_retN, ↓ap_ifM, ↓ap_setM, ↓ap_asgM, ↓ap_parM, ↓ap_par3M, ↓ap_putM, ↓ap_putOwnM, ↓ap_putFldM, ↓ap_methM, ↓ap_lmM, ↓ap_appendOwnM, ↓ap_dpopM, ↓ap_dpop2M, ↓ap_chainM, ↓ap_isiM, ↓ap_sliceM, ↓ap_bdN, ↓ap_bdA, ↓ap_lam, startE, List.map_cons, List.map_nil, List.length_cons, List.length_nil, List.replicate, List.cons_append, List.nil_append, List.append_nil, List.set_cons_zero, List.set_cons_succ, List.getElem?_cons_zero, List.getElem?_cons_succ, T.own, Bool.false_and, Bool.true_and, Bool.not_true, Bool.not_false, Bool.and_false, Bool.and_true, reduceIte, Bool.false_eq_true, escs, esc, tgName, tgTup, tgEach, Nat.zero_add, Nat.reduceAdd, Nat.reduceSub, Nat.reduceLeDiff, Nat.reduceLT, Nat.zero_lt_succ, true_and, Nat.reduceEqDiff, line, e1, negO_i, l1, l2, ebw, hS2, eF, e4, hS5, e7, hS6, eH, tupleF_ref h8]
  · have := m3.hi p hp
    have hh := get_lt (k5 _ _ (m3.r.rcd p hp))
    have hm := get_lt (k4 _ _ (m3.r.rcd p hp))
    exact up _ _ (by omega) (by omega) (k6 _ _ (m3.r.rcd p hp))
  · have := m3.hi p hp
    have hm := get_lt (k4 _ _ (m3.r.fld p hp))
    exact up _ _ (by omega) (by omega) (k6 _ _ (m3.r.fld p hp))
  · refine List.mem_append.mpr (.inl ?_)
    rw [← hh0, List.mem_filter, mem_sortI]
    exact ⟨hp, by rw [hcnp p, h0]; rfl⟩
  · rcases List.mem_append.mp hw with hw | hw
    · rw [← hh0, List.mem_filter, mem_sortI] at hw
      exact .inr hw.1
    · exact List.mem_append.mp (mm w hw)
end K71

namespace K71
open PySem PySem.Spec DL Giv
open L2 (Key atI ixN)
/-! ### the program's Drop -/
def cellD (sh : Int → Str) (fl : Int → List Int) (p c : Int) : D := .tup [.int p, .int c, .str (sh p), .tup ((fl p).map D.int)]
structure Dic (kvs : List (Key × D)) (m : Mp) (sh : Int → Str) (fl : Int → List Int) : Prop where
  get : ∀ w, getK kvs (.inl w) = (m w).map fun c => cellD sh fl w c
  keys : ∃ l : List Int, kvs.map (·.1) = l.map Sum.inl ∧ l.Nodup ∧ l.length < 64
theorem Dic.len {kvs m sh fl} (d : Dic kvs m sh fl) : kvs.length < 64 := by
  obtain ⟨l, h, _, h2⟩ := d.keys
  have := congrArg List.length h
  simp at this
  omega
theorem Dic.put {kvs m sh fl} (d : Dic kvs m sh fl) {w c c' : Int} (h : m w = some c) : Dic (putD kvs (.inl w) (cellD sh fl w c')) (up m w (some c')) sh fl := by
  refine ⟨fun x => ?_, ?_⟩
  · rw [getK_put]
    unfold up
    by_cases e : x = w
    · subst e; simp
    · rw [if_neg (by intro h; cases h; exact e rfl), if_neg e, d.get]
  · obtain ⟨l, h1, h2, h3⟩ := d.keys
    refine ⟨l, ?_, h2, h3⟩
    rcases keys_put (.inl w) (cellD sh fl w c') kvs with ⟨_, e⟩ | ⟨hn, _⟩
    · rw [e, h1]
    · exfalso
      apply hn
      rw [← getK_some, d.get, h]
      rfl
theorem Dic.pop {kvs m sh fl} (d : Dic kvs m sh fl) (w : Int) : Dic (dropD kvs (.inl w)) (up m w none) sh fl := by
  refine ⟨fun x => ?_, ?_⟩
  · rw [getK_drop]
    unfold up
    by_cases e : x = w
    · subst e; simp
    · rw [if_neg (by intro h; cases h; exact e rfl), if_neg e, d.get]
  · obtain ⟨l, h1, h2, h3⟩ := d.keys
    refine ⟨l.filter fun x => decide (x ≠ w), ?_, h2.filter _, Nat.lt_of_le_of_lt (List.length_filter_le _ _) h3⟩
    rw [keys_drop, h1, List.filter_map]
    congr 1
    apply List.filter_congr
    intro x _
    simp
structure Dst (S : Sto) (nd nc nr : Nat) (m : Mp) (row : List Int) (sh : Int → Str) (fl : Int → List Int) : Prop where
  obj : S[nd]? = some (.ins "Drop" [("cells", .ref nc), ("row", .ref nr)])
  cel : ∃ kvs, S[nc]? = some (.dic kvs) ∧ Dic kvs m sh fl
  rw_ : S[nr]? = some (.lst (row.map D.int))
  rlen : row.length < 100000
def Kx (nc nr : Nat) (S S' : Sto) : Prop := ∀ (i : Nat) (o : MO), i ≠ nc → i ≠ nr → S[i]? = some o → S'[i]? = some o
theorem Kx.refl {nc nr : Nat} {S : Sto} : Kx nc nr S S := fun _ _ _ _ h => h
theorem Kx.trans {nc nr : Nat} {S S1 S2 : Sto} (h : Kx nc nr S S1) (g : Kx nc nr S1 S2) : Kx nc nr S S2 := fun i o h1 h2 h3 => g i o h1 h2 (h i o h1 h2 h3)
theorem str_ne1 : (("less" : Str) == ("cells" : Str)) = false := by decide +kernel
theorem str_ne2 : (("less" : Str) == ("row" : Str)) = false := by decide +kernel
theorem str_ne3 : (("first_broken" : Str) == ("cells" : Str)) = false := by decide +kernel
theorem str_ne4 : (("first_broken" : Str) == ("row" : Str)) = false := by decide +kernel
theorem str_ne5 : (("heap" : Str) == ("cells" : Str)) = false := by decide +kernel
theorem str_ne6 : (("heap" : Str) == ("row" : Str)) = false := by decide +kernel
theorem str_ne7 : (("row" : Str) == ("cells" : Str)) = false := by decide +kernel
theorem str_eq1 : (("cells" : Str) == ("cells" : Str)) = true := by decide +kernel
theorem str_eq2 : (("row" : Str) == ("row" : Str)) = true := by decide +kernel
theorem isIns_less {S : Sto} {nd : Nat} {x y : D} (h : S[nd]? = some (.ins "Drop" [("cells", x), ("row", y)])) : isIns "Drop" "less" S (.im (.ref nd)) = true := by
  unfold isIns
  simp only [h, List.lookup, str_ne1, str_ne2, decide_true, Bool.true_and, Option.isNone]
theorem isIns_first {S : Sto} {nd : Nat} {x y : D} (h : S[nd]? = some (.ins "Drop" [("cells", x), ("row", y)])) : isIns "Drop" "first_broken" S (.im (.ref nd)) = true := by
  unfold isIns
  simp only [h, List.lookup, str_ne3, str_ne4, decide_true, Bool.true_and, Option.isNone]
theorem isIns_heap {S : Sto} {nd : Nat} {x y : D} (h : S[nd]? = some (.ins "Drop" [("cells", x), ("row", y)])) : isIns "Drop" "heap" S (.im (.ref nd)) = true := by
  unfold isIns
  simp only [h, List.lookup, str_ne5, str_ne6, decide_true, Bool.true_and, Option.isNone]
theorem fld_cells {S : Sto} {nd : Nat} {x y : D} (h : S[nd]? = some (.ins "Drop" [("cells", x), ("row", y)])) : fldO "Drop" "cells" (.im (.ref nd)) S = .ok (.im x) S := by
  unfold fldO
  simp only [h, List.lookup, str_eq1, if_true]
theorem fld_row {S : Sto} {nd : Nat} {x y : D} (h : S[nd]? = some (.ins "Drop" [("cells", x), ("row", y)])) : fldO "Drop" "row" (.im (.ref nd)) S = .ok (.im y) S := by
  unfold fldO
  simp only [h, List.lookup, str_ne7, str_eq2, if_true]
theorem ninO_dic {S : Sto} {n : Nat} {kvs : List (Key × D)} {w : Int} (h : S[n]? = some (.dic kvs)) : ninO (.im (.int w)) (.im (.ref n)) S = .ok (.im (.bl !(getK kvs (.inl w)).isSome)) S := by
  unfold ninO DL.inV dicOf
  simp only [h, keyD, Option.map]
theorem points_ok {S : Sto} {w : Int} : F_points [.im (.int w)] S = .ok (.im (.bl (decide (w % 4 = 0)))) S := by
  rw [F_points, ap_runF, m_points]
  simp only [↓ap_bind, ↓ap_bindS, ↓ap_seqM, ↓ap_skipM, ↓ap_un, ↓ap_bin, ↓ap_slot, ↓ap_cst, ↓ap_andM, ↓ap_orM, ↓ap_notM, ↓ap_iteM, ↓ap_argsN, ↓ap_argsC, ↓ap_tupM, ↓ap_lstM, ↓ap_escM, ↓ap_appA, ↓ap_callM, ↓ap_exprM, ↓ap_retM, ↓ap_retN, ↓ap_ifM, ↓ap_setM, ↓ap_asgM, ↓ap_parM, ↓ap_par3M, ↓ap_putM, ↓ap_putOwnM, ↓ap_putFldM, ↓ap_methM, ↓ap_lmM, ↓ap_appendOwnM, ↓ap_dpopM, ↓ap_dpop2M, ↓ap_chainM, ↓ap_isiM, ↓ap_sliceM, ↓ap_bdN, ↓ap_bdA, ↓ap_lam, startE, List.map_cons, List.map_nil, List.length_cons, List.length_nil, List.replicate, List.cons_append, List.nil_append, List.append_nil, List.set_cons_zero, List.set_cons_succ, List.getElem?_cons_zero, List.getElem?_cons_succ, T.own, Bool.false_and, Bool.true_and, Bool.not_true, Bool.not_false, Bool.and_false, Bool.and_true, reduceIte, Bool.false_eq_true, escs, esc, tgName, tgTup, tgEach, Nat.zero_add, Nat.reduceAdd, Nat.reduceSub, Nat.reduceLeDiff, Nat.reduceLT, Nat.zero_lt_succ, true_and, Nat.reduceEqDiff, line, opI_i (modC_p (i := w) (j := 4) (by omega)), eqO_i]
theorem less_none {S : Sto} {nd nc nr : Nat} {m : Mp} {row : List Int} {sh fl} (d : Dst S nd nc nr m row sh fl) {w : Int} (h : m w = none) : F_Drop_less [.im (.ref nd), .im (.int w)] S = .ok (.im (.bl true)) S := by
  obtain ⟨kvs, hc, hd⟩ := d.cel
  have hg : getK kvs (.inl w) = none := by rw [hd.get, h]; rfl
  rw [F_Drop_less, ap_runF, m_Drop_less]
  simp only [↓ap_bind, ↓ap_bindS, ↓ap_seqM, ↓ap_skipM, ↓ap_un, ↓ap_bin, ↓ap_slot, ↓ap_cst, ↓ap_andM, ↓ap_orM, ↓ap_notM, ↓ap_iteM, ↓ap_argsN, ↓ap_argsC, ↓ap_tupM, ↓ap_lstM, ↓ap_escM, ↓ap_appA, ↓ap_callM, ↓ap_exprM, ↓ap_retM, ↓ap_retN, ↓ap_ifM, ↓ap_setM, ↓ap_asgM, ↓ap_parM, ↓ap_par3M, ↓ap_putM, ↓ap_putOwnM, ↓ap_putFldM, ↓ap_methM, ↓ap_lmM, ↓ap_appendOwnM, ↓ap_dpopM, ↓ap_dpop2M, ↓ap_chainM, ↓ap_isiM, ↓ap_sliceM, ↓ap_bdN, ↓ap_bdA, ↓ap_lam, startE, List.map_cons, List.map_nil, List.length_cons, List.length_nil, List.replicate, List.cons_append, List.nil_append, List.append_nil, List.set_cons_zero, List.set_cons_succ, List.getElem?_cons_zero, List.getElem?_cons_succ, T.own, Bool.false_and, Bool.true_and, Bool.not_true, Bool.not_false, Bool.and_false, Bool.and_true, reduceIte, Bool.false_eq_true, escs, esc, tgName, tgTup, tgEach, Nat.zero_add, Nat.reduceAdd, Nat.reduceSub, Nat.reduceLeDiff, Nat.reduceLT, Nat.zero_lt_succ, true_and, Nat.reduceEqDiff, line, fld_cells d.obj, ninO_dic hc, hg, Option.isSome]
theorem less_some {S : Sto} {nd nc nr : Nat} {m : Mp} {row : List Int} {sh fl} (d : Dst S nd nc nr m row sh fl) {w c : Int} (h : m w = some c) (hl : row.length < 90000) : ∃ S', F_Drop_less [.im (.ref nd), .im (.int w)] S = .ok (.im (.bl false)) S' ∧ Dst S' nd nc nr (up m w (some (c - 1))) (if c = 1 then row ++ [w] else row) sh fl ∧ Kx nc nr S S' := by
  obtain ⟨kvs, hc, hd⟩ := d.cel
  have hg : getK kvs (.inl w) = some (.tup [.int w, .int c, .str (sh w), .tup ((fl w).map D.int)]) := by rw [hd.get, h]; rfl
  have hcr : nc ≠ nr := fun e => by rw [e, d.rw_] at hc; cases hc
  have hdc : nc ≠ nd := fun e => by rw [e, d.obj] at hc; cases hc
  have hdr : nr ≠ nd := fun e => by have := d.rw_; rw [e, d.obj] at this; cases this
  have e1 : putO (.dic kvs) (.im (.int w)) (.tup [.int w, .int (c - 1), .str (sh w), .tup ((fl w).map D.int)]) = some (.dic (putD kvs (.inl w) (cellD sh fl w (c - 1)))) := by
    unfold putO
    simp only [keyD]
    have := hd.len
    rw [if_pos (by simp [line]; omega)]
    rfl
  have e0 : ixO (.im (.ref nc)) (.im (.int w)) S = .ok (.im (.tup [.int w, .int c, .str (sh w), .tup ((fl w).map D.int)])) S := ixO_dic (.inl hc) rfl hg
  generalize hS1 : S.set nc (.dic (putD kvs (.inl w) (cellD sh fl w (c - 1)))) = S1
  have hc1 : S1[nc]? = some (.dic (putD kvs (.inl w) (cellD sh fl w (c - 1)))) := by rw [← hS1]; exact get_same hc
  have ho1 : S1[nd]? = some (.ins "Drop" [("cells", .ref nc), ("row", .ref nr)]) := by rw [← hS1, get_ne hdc, d.obj]
  have hr1 : S1[nr]? = some (.lst (row.map D.int)) := by rw [← hS1, get_ne hcr, d.rw_]
  by_cases hc0 : c = 1
  · have e2 := appendF_ref (d := .int w) hr1 (by simp [line]; omega)
    have e3 : row.map D.int ++ [D.int w] = (row ++ [w]).map D.int := by simp
    rw [e3] at e2
    refine ⟨S1.set nr (.lst ((row ++ [w]).map D.int)), ?_, ⟨by rw [get_ne hdr, ho1], ⟨_, by rw [get_ne (Ne.symm hcr), hc1], hd.put h⟩, by rw [if_pos hc0]; exact get_same hr1, ?_⟩, fun i o h1 h2 h3 => by rw [get_ne (Ne.symm h2), ← hS1, get_ne (Ne.symm h1), h3]⟩
    · rw [F_Drop_less, ap_runF, m_Drop_less]
      simp only [↓ap_bind, ↓ap_bindS, ↓ap_seqM, ↓ap_skipM, ↓ap_un, ↓ap_bin, ↓ap_slot, ↓ap_cst, ↓ap_andM, ↓ap_orM, ↓ap_notM, ↓ap_iteM, ↓ap_argsN, ↓ap_argsC, ↓ap_tupM, ↓ap_lstM, ↓ap_escM, ↓ap_appA, ↓ap_callM, ↓ap_exprM, ↓ap_retM, ↓ap_retN, ↓ap_ifM, ↓ap_setM, ↓ap_asgM, ↓ap_parM, ↓ap_par3M, ↓ap_putM, ↓ap_putOwnM, ↓ap_putFldM, ↓ap_methM, ↓ap_lmM, ↓ap_appendOwnM, ↓ap_dpopM, ↓ap_dpop2M, ↓ap_chainM, ↓ap_isiM, ↓ap_sliceM, ↓ap_bdN, ↓ap_bdA, ↓ap_lam, startE, List.map_cons, List.map_nil, List.length_cons, List.length_nil, List.replicate, List.cons_append, List.nil_append, List.append_nil, List.set_cons_zero, List.set_cons_succ, List.getElem?_cons_zero, List.getElem?_cons_succ, T.own, Bool.false_and, Bool.true_and, Bool.not_true, Bool.not_false, Bool.and_false, Bool.and_true, reduceIte, Bool.false_eq_true, escs, esc, tgName, tgTup, tgEach, Nat.zero_add, Nat.reduceAdd, Nat.reduceSub, Nat.reduceLeDiff, Nat.reduceLT, Nat.zero_lt_succ, true_and, Nat.reduceEqDiff, line, fld_cells d.obj, ninO_dic hc, hg, Option.isSome, e0, opI0_i, hc, e1, hS1, eqO_i, decide_eq_true hc0, fld_row ho1, isLst_ref hr1, e2]
    · rw [if_pos hc0]; simp; omega
  · refine ⟨S1, ?_, ⟨ho1, ⟨_, hc1, hd.put h⟩, by rw [if_neg hc0]; exact hr1, by rw [if_neg hc0]; omega⟩, fun i o h1 h2 h3 => by rw [← hS1, get_ne (Ne.symm h1), h3]⟩
    rw [F_Drop_less, ap_runF, m_Drop_less]
    simp only [↓ap_bind, ↓ap_bindS, ↓ap_seqM, ↓ap_skipM, ↓ap_un, ↓ap_bin, ↓ap_slot, ↓ap_cst, ↓ap_andM, ↓ap_orM, ↓ap_notM, ↓ap_iteM, ↓ap_argsN, ↓ap_argsC, ↓ap_tupM, ↓ap_lstM, ↓ap_escM, ↓ap_appA, ↓ap_callM, ↓ap_exprM, ↓ap_retM, ↓ap_retN, ↓ap_ifM, ↓ap_setM, ↓ap_asgM, ↓ap_parM, ↓ap_par3M, ↓ap_putM, ↓ap_putOwnM, ↓ap_putFldM, ↓ap_methM, ↓ap_lmM, ↓ap_appendOwnM, ↓ap_dpopM, ↓ap_dpop2M, ↓ap_chainM, ↓ap_isiM, ↓ap_sliceM, ↓ap_bdN, ↓ap_bdA, ↓ap_lam, startE, List.map_cons, List.map_nil, List.length_cons, List.length_nil, List.replicate, List.cons_append, List.nil_append, List.append_nil, List.set_cons_zero, List.set_cons_succ, List.getElem?_cons_zero, List.getElem?_cons_succ, T.own, Bool.false_and, Bool.true_and, Bool.not_true, Bool.not_false, Bool.and_false, Bool.and_true, reduceIte, Bool.false_eq_true, escs, esc, tgName, tgTup, tgEach, Nat.zero_add, Nat.reduceAdd, Nat.reduceSub, Nat.reduceLeDiff, Nat.reduceLT, Nat.zero_lt_succ, true_and, Nat.reduceEqDiff, line, fld_cells d.obj, ninO_dic hc, hg, Option.isSome, e0, opI0_i, hc, e1, hS1, eqO_i, decide_eq_false hc0]
/-! the words in their order -/
theorem forL_step {get : Get} {tgt : Tgt} {body : MS} {pre rest : List D} {d : D} {ρ ρ1 ρ2 : Ev} {S S2 : Sto} (h : get ρ S = some (pre ++ d :: rest)) (ht : tgt d ρ = some ρ1) (hb : body ρ1 S = .ok (.nx, ρ2) S2) : forL get tgt body (rest.length + 1) pre.length ρ S = forL get tgt body rest.length (pre.length + 1) ρ2 S2 := by
  conv => lhs; unfold forL
  simp only [h]
  rw [List.getElem?_append_right (Nat.le_refl _), Nat.sub_self, List.getElem?_cons_zero]
  simp only [ht, hb]
theorem forL_rt {get : Get} {tgt : Tgt} {body : MS} {pre rest : List D} {d : D} {ρ ρ1 ρ2 : Ev} {S S2 : Sto} {t : T} (h : get ρ S = some (pre ++ d :: rest)) (ht : tgt d ρ = some ρ1) (hb : body ρ1 S = .ok (.rt t, ρ2) S2) : forL get tgt body (rest.length + 1) pre.length ρ S = .ok (.rt t, ρ2) S2 := by
  conv => lhs; unfold forL
  simp only [h]
  rw [List.getElem?_append_right (Nat.le_refl _), Nat.sub_self, List.getElem?_cons_zero]
  simp only [ht, hb]
theorem forL_end {get : Get} {tgt : Tgt} {body : MS} {pre : List D} {ρ : Ev} {S : Sto} (h : get ρ S = some pre) : forL get tgt body 0 pre.length ρ S = .ok (.nx, ρ) S := by
  unfold forL
  simp only [h]
  rw [List.getElem?_eq_none (Nat.le_refl _)]
def brD : Option Int → D
  | none => .non
  | some w => .int w
abbrev bodyFB : MS := (seqM (ifM (andM (callM 1 F_points (argsM [(slot false 2)])) (methM "Drop" "less" 1 F_Drop_less (slot true 0) (argsM [(slot false 2)])))
  (seqM (retM (slot true 2)) skipM)
  skipM) skipM)
def brF (br : Option Int) (ρ : Ev) (S : Sto) : Res (Fl × Ev) := match br with
  | none => .ok (.nx, ρ) S
  | some w => .ok (.rt (.im (.int w)), ρ) S
def LoopFB (nd nc nr : Nat) (sh : Int → Str) (fl : Int → List Int) (get : Get) (t : T) (rest pre : List Int) (S : Sto) (m : Mp) (row : List Int) (v : Option T) : Prop :=
  ∃ S' w2 br m' row', fb m row rest = (br, m', row') ∧ forL get (tgName 2) bodyFB rest.length pre.length [some (.im (.ref nd)), some t, v] S = brF br [some (.im (.ref nd)), some t, w2] S' ∧ Dst S' nd nc nr m' row' sh fl ∧ Kx nc nr S S'
theorem first_loop {nd nc nr : Nat} {sh fl} {get : Get} {all : List Int} {t : T} {S0 : Sto} (hg : ∀ ρ S, Kx nc nr S0 S → get ρ S = some (all.map D.int)) : ∀ (rest pre : List Int) (S : Sto) (m : Mp) (row : List Int) (v : Option T), all = pre ++ rest → Kx nc nr S0 S → Dst S nd nc nr m row sh fl → row.length + rest.length < 90000 →
    LoopFB nd nc nr sh fl get t rest pre S m row v
  | [], pre, S, m, row, v, e, k, d, hl => by
    rw [List.append_nil] at e
    subst e
    refine ⟨S, v, none, m, row, rfl, ?_, d, .refl⟩
    have := forL_end (tgt := tgName 2) (body := bodyFB) (hg [some (.im (.ref nd)), some t, v] S k)
    rw [List.length_map] at this
    exact this
  | w :: rest, pre, S, m, row, v, e, k, d, hl => by
    simp only [List.length_cons] at hl
    have hg2 := hg [some (.im (.ref nd)), some t, v] S k
    rw [e, List.map_append, List.map_cons] at hg2
    have stepE : ∀ {m1 row1 S1}, Kx nc nr S S1 → Dst S1 nd nc nr m1 row1 sh fl → row1.length ≤ row.length + 1 → fb m row (w :: rest) = fb m1 row1 rest → bodyFB [some (.im (.ref nd)), some t, some (.im (.int w))] S = .ok (.nx, [some (.im (.ref nd)), some t, some (.im (.int w))]) S1 → LoopFB nd nc nr sh fl get t (w :: rest) pre S m row v := fun {m1 row1 S1} k1 d1 hr ef eb => by
      have key := forL_step (tgt := tgName 2) (ρ1 := [some (.im (.ref nd)), some t, some (.im (.int w))]) hg2 rfl eb
      obtain ⟨S', w2, br, m', row', e1, e2, d', k'⟩ := first_loop (t := t) hg rest (pre ++ [w]) S1 m1 row1 (some (.im (.int w))) (by rw [e]; simp) (k.trans k1) d1 (by omega)
      refine ⟨S', w2, br, m', row', by rw [ef]; exact e1, ?_, d', k1.trans k'⟩
      simp only [List.length_map, List.length_append, List.length_cons, List.length_nil, Nat.zero_add] at key e2
      rw [List.length_cons, key, e2]
    by_cases h4 : w % 4 = 0
    · cases hm : m w with
      | none =>
        refine ⟨S, some (.im (.int w)), some w, m, row, by unfold fb; rw [if_pos h4, hm], ?_, d, .refl⟩
        have key := forL_rt (tgt := tgName 2) (ρ1 := [some (.im (.ref nd)), some t, some (.im (.int w))]) (body := bodyFB) (t := .im (.int w)) (ρ2 := [some (.im (.ref nd)), some t, some (.im (.int w))]) (S2 := S) hg2 rfl (by
            simp only [↓ap_bind, ↓ap_bindS, ↓ap_seqM, ↓ap_skipM, ↓ap_un, ↓ap_bin, ↓ap_slot, ↓ap_cst, ↓ap_andM, ↓ap_orM, ↓ap_notM, ↓ap_iteM, ↓ap_argsN, ↓ap_argsC, ↓ap_tupM, ↓ap_lstM, ↓ap_escM, ↓ap_appA, ↓ap_callM, ↓ap_exprM, ↓ap_retM, ↓ap_retN, ↓ap_ifM, ↓ap_setM, ↓ap_asgM, ↓ap_parM, ↓ap_par3M, ↓ap_putM, ↓ap_putOwnM, ↓ap_putFldM, ↓ap_methM, ↓ap_lmM, ↓ap_appendOwnM, ↓ap_dpopM, ↓ap_dpop2M, ↓ap_chainM, ↓ap_isiM, ↓ap_sliceM, ↓ap_bdN, ↓ap_bdA, ↓ap_lam, startE, List.map_cons, List.map_nil, List.length_cons, List.length_nil, List.replicate, List.cons_append, List.nil_append, List.append_nil, List.set_cons_zero, List.set_cons_succ, List.getElem?_cons_zero, List.getElem?_cons_succ, T.own, Bool.false_and, Bool.true_and, Bool.not_true, Bool.not_false, Bool.and_false, Bool.and_true, reduceIte, Bool.false_eq_true, escs, esc, tgName, tgTup, tgEach, Nat.zero_add, Nat.reduceAdd, Nat.reduceSub, Nat.reduceLeDiff, Nat.reduceLT, Nat.zero_lt_succ, true_and, Nat.reduceEqDiff, line, points_ok, decide_eq_true h4, isIns_less d.obj, less_none d hm])
        simp only [List.length_map] at key
        rw [List.length_cons, key]
        rfl
      | some c =>
        obtain ⟨S1, e1, d1, k1⟩ := less_some d hm (by omega)
        refine stepE k1 d1 (by split <;> simp) (by conv => lhs; unfold fb; rw [if_pos h4, hm]) ?_
        simp only [↓ap_bind, ↓ap_bindS, ↓ap_seqM, ↓ap_skipM, ↓ap_un, ↓ap_bin, ↓ap_slot, ↓ap_cst, ↓ap_andM, ↓ap_orM, ↓ap_notM, ↓ap_iteM, ↓ap_argsN, ↓ap_argsC, ↓ap_tupM, ↓ap_lstM, ↓ap_escM, ↓ap_appA, ↓ap_callM, ↓ap_exprM, ↓ap_retM, ↓ap_retN, ↓ap_ifM, ↓ap_setM, ↓ap_asgM, ↓ap_parM, ↓ap_par3M, ↓ap_putM, ↓ap_putOwnM, ↓ap_putFldM, ↓ap_methM, ↓ap_lmM, ↓ap_appendOwnM, ↓ap_dpopM, ↓ap_dpop2M, ↓ap_chainM, ↓ap_isiM, ↓ap_sliceM, ↓ap_bdN, ↓ap_bdA, ↓ap_lam, startE, List.map_cons, List.map_nil, List.length_cons, List.length_nil, List.replicate, List.cons_append, List.nil_append, List.append_nil, List.set_cons_zero, List.set_cons_succ, List.getElem?_cons_zero, List.getElem?_cons_succ, T.own, Bool.false_and, Bool.true_and, Bool.not_true, Bool.not_false, Bool.and_false, Bool.and_true, reduceIte, Bool.false_eq_true, escs, esc, tgName, tgTup, tgEach, Nat.zero_add, Nat.reduceAdd, Nat.reduceSub, Nat.reduceLeDiff, Nat.reduceLT, Nat.zero_lt_succ, true_and, Nat.reduceEqDiff, line, points_ok, decide_eq_true h4, isIns_less d.obj, e1]
    · refine stepE .refl d (by omega) (by conv => lhs; unfold fb; rw [if_neg h4]) ?_
      simp only [↓ap_bind, ↓ap_bindS, ↓ap_seqM, ↓ap_skipM, ↓ap_un, ↓ap_bin, ↓ap_slot, ↓ap_cst, ↓ap_andM, ↓ap_orM, ↓ap_notM, ↓ap_iteM, ↓ap_argsN, ↓ap_argsC, ↓ap_tupM, ↓ap_lstM, ↓ap_escM, ↓ap_appA, ↓ap_callM, ↓ap_exprM, ↓ap_retM, ↓ap_retN, ↓ap_ifM, ↓ap_setM, ↓ap_asgM, ↓ap_parM, ↓ap_par3M, ↓ap_putM, ↓ap_putOwnM, ↓ap_putFldM, ↓ap_methM, ↓ap_lmM, ↓ap_appendOwnM, ↓ap_dpopM, ↓ap_dpop2M, ↓ap_chainM, ↓ap_isiM, ↓ap_sliceM, ↓ap_bdN, ↓ap_bdA, ↓ap_lam, startE, List.map_cons, List.map_nil, List.length_cons, List.length_nil, List.replicate, List.cons_append, List.nil_append, List.append_nil, List.set_cons_zero, List.set_cons_succ, List.getElem?_cons_zero, List.getElem?_cons_succ, T.own, Bool.false_and, Bool.true_and, Bool.not_true, Bool.not_false, Bool.and_false, Bool.and_true, reduceIte, Bool.false_eq_true, escs, esc, tgName, tgTup, tgEach, Nat.zero_add, Nat.reduceAdd, Nat.reduceSub, Nat.reduceLeDiff, Nat.reduceLT, Nat.zero_lt_succ, true_and, Nat.reduceEqDiff, line, points_ok, decide_eq_false h4]
theorem first_ok {S : Sto} {nd nc nr : Nat} {m : Mp} {row : List Int} {sh fl} {t : T} {ws : List Int} (d : Dst S nd nc nr m row sh fl) (ht : t = .im (.tup (ws.map D.int)) ∨ ∃ n, t = .im (.ref n) ∧ n ≠ nc ∧ n ≠ nr ∧ S[n]? = some (.lst (ws.map D.int))) (hl : row.length + ws.length < 90000) :
    ∃ S' br m' row', fb m row ws = (br, m', row') ∧ F_Drop_first_broken [.im (.ref nd), t] S = .ok (.im (brD br)) S' ∧ Dst S' nd nc nr m' row' sh fl ∧ Kx nc nr S S' := by
  obtain ⟨get, hseq, hget⟩ : ∃ get : Get, seqS (slot false 1) [some (.im (.ref nd)), some t, none] S = .ok (get, ws.length) S ∧ ∀ ρ S', Kx nc nr S S' → get ρ S' = some (ws.map D.int) := by
    rcases ht with rfl | ⟨n, rfl, h1, h2, h3⟩
    · refine ⟨constG (ws.map D.int), ?_, fun _ _ _ => rfl⟩
      simp only [ap_seqS, ↓ap_bind, ↓ap_bindS, ↓ap_seqM, ↓ap_skipM, ↓ap_un, ↓ap_bin, ↓ap_slot, ↓ap_cst, ↓ap_andM, ↓ap_orM, ↓ap_notM, ↓ap_iteM, ↓ap_argsN, ↓ap_argsC, ↓ap_tupM, ↓ap_lstM, ↓ap_escM, ↓ap_appA, ↓ap_callM, ↓ap_exprM, ↓ap_retM, ↓ap_retN, ↓ap_ifM, ↓ap_setM, ↓ap_asgM, ↓ap_parM, ↓ap_par3M, ↓ap_putM, ↓ap_putOwnM, ↓ap_putFldM, ↓ap_methM, ↓ap_lmM, ↓ap_appendOwnM, ↓ap_dpopM, ↓ap_dpop2M, ↓ap_chainM, ↓ap_isiM, ↓ap_sliceM, ↓ap_bdN, ↓ap_bdA, ↓ap_lam, startE, List.map_cons, List.map_nil, List.length_cons, List.length_nil, List.replicate, List.cons_append, List.nil_append, List.append_nil, List.set_cons_zero, List.set_cons_succ, List.getElem?_cons_zero, List.getElem?_cons_succ, T.own, Bool.false_and, Bool.true_and, Bool.not_true, Bool.not_false, Bool.and_false, Bool.and_true, reduceIte, Bool.false_eq_true, escs, esc, tgName, tgTup, tgEach, Nat.zero_add, Nat.reduceAdd, Nat.reduceSub, Nat.reduceLeDiff, Nat.reduceLT, Nat.zero_lt_succ, true_and, Nat.reduceEqDiff, line, walkOf, List.length_map]
    · refine ⟨objG n, ?_, fun ρ S' k => ?_⟩
      · simp only [ap_seqS, ↓ap_bind, ↓ap_bindS, ↓ap_seqM, ↓ap_skipM, ↓ap_un, ↓ap_bin, ↓ap_slot, ↓ap_cst, ↓ap_andM, ↓ap_orM, ↓ap_notM, ↓ap_iteM, ↓ap_argsN, ↓ap_argsC, ↓ap_tupM, ↓ap_lstM, ↓ap_escM, ↓ap_appA, ↓ap_callM, ↓ap_exprM, ↓ap_retM, ↓ap_retN, ↓ap_ifM, ↓ap_setM, ↓ap_asgM, ↓ap_parM, ↓ap_par3M, ↓ap_putM, ↓ap_putOwnM, ↓ap_putFldM, ↓ap_methM, ↓ap_lmM, ↓ap_appendOwnM, ↓ap_dpopM, ↓ap_dpop2M, ↓ap_chainM, ↓ap_isiM, ↓ap_sliceM, ↓ap_bdN, ↓ap_bdA, ↓ap_lam, startE, List.map_cons, List.map_nil, List.length_cons, List.length_nil, List.replicate, List.cons_append, List.nil_append, List.append_nil, List.set_cons_zero, List.set_cons_succ, List.getElem?_cons_zero, List.getElem?_cons_succ, T.own, Bool.false_and, Bool.true_and, Bool.not_true, Bool.not_false, Bool.and_false, Bool.and_true, reduceIte, Bool.false_eq_true, escs, esc, tgName, tgTup, tgEach, Nat.zero_add, Nat.reduceAdd, Nat.reduceSub, Nat.reduceLeDiff, Nat.reduceLT, Nat.zero_lt_succ, true_and, Nat.reduceEqDiff, line, walkOf, h3, List.length_map]
      · unfold objG
        rw [k n _ h1 h2 h3]
  obtain ⟨S', w2, br, m', row', e1, e2, d', k'⟩ := first_loop (t := t) hget ws [] S m row none rfl .refl d hl
  refine ⟨S', br, m', row', e1, ?_, d', k'⟩
  have ef : DL.forM (seqS (slot false 1)) (tgName 2) bodyFB [some (.im (.ref nd)), some t, none] S = brF br [some (.im (.ref nd)), some t, w2] S' := by
    unfold DL.forM
    rw [hseq]
    exact e2
  rw [F_Drop_first_broken, ap_runF, m_Drop_first_broken]
  cases br with
  | none => simp only [↓ap_bind, ↓ap_bindS, ↓ap_seqM, ↓ap_skipM, ↓ap_un, ↓ap_bin, ↓ap_slot, ↓ap_cst, ↓ap_andM, ↓ap_orM, ↓ap_notM, ↓ap_iteM, ↓ap_argsN, ↓ap_argsC, ↓ap_tupM, ↓ap_lstM, ↓ap_escM, ↓ap_appA, ↓ap_callM, ↓ap_exprM, ↓ap_retM, ↓ap_retN, ↓ap_ifM, ↓ap_setM, ↓ap_asgM, ↓ap_parM, ↓ap_par3M, ↓ap_putM, ↓ap_putOwnM, ↓ap_putFldM, ↓ap_methM, ↓ap_lmM, ↓ap_appendOwnM, ↓ap_dpopM, ↓ap_dpop2M, ↓ap_chainM, ↓ap_isiM, ↓ap_sliceM, ↓ap_bdN, ↓ap_bdA, ↓ap_lam, startE, List.map_cons, List.map_nil, List.length_cons, List.length_nil, List.replicate, List.cons_append, List.nil_append, List.append_nil, List.set_cons_zero, List.set_cons_succ, List.getElem?_cons_zero, List.getElem?_cons_succ, T.own, Bool.false_and, Bool.true_and, Bool.not_true, Bool.not_false, Bool.and_false, Bool.and_true, reduceIte, Bool.false_eq_true, escs, esc, tgName, tgTup, tgEach, Nat.zero_add, Nat.reduceAdd, Nat.reduceSub, Nat.reduceLeDiff, Nat.reduceLT, Nat.zero_lt_succ, true_and, Nat.reduceEqDiff, line, ef, brF, brD]
  | some w => simp only [↓ap_bind, ↓ap_bindS, ↓ap_seqM, ↓ap_skipM, ↓ap_un, ↓ap_bin, ↓ap_slot, ↓ap_cst, ↓ap_andM, ↓ap_orM, ↓ap_notM, ↓ap_iteM, ↓ap_argsN, ↓ap_argsC, ↓ap_tupM, ↓ap_lstM, ↓ap_escM, ↓ap_appA, ↓ap_callM, ↓ap_exprM, ↓ap_retM, ↓ap_retN, ↓ap_ifM, ↓ap_setM, ↓ap_asgM, ↓ap_parM, ↓ap_par3M, ↓ap_putM, ↓ap_putOwnM, ↓ap_putFldM, ↓ap_methM, ↓ap_lmM, ↓ap_appendOwnM, ↓ap_dpopM, ↓ap_dpop2M, ↓ap_chainM, ↓ap_isiM, ↓ap_sliceM, ↓ap_bdN, ↓ap_bdA, ↓ap_lam, startE, List.map_cons, List.map_nil, List.length_cons, List.length_nil, List.replicate, List.cons_append, List.nil_append, List.append_nil, List.set_cons_zero, List.set_cons_succ, List.getElem?_cons_zero, List.getElem?_cons_succ, T.own, Bool.false_and, Bool.true_and, Bool.not_true, Bool.not_false, Bool.and_false, Bool.and_true, reduceIte, Bool.false_eq_true, escs, esc, tgName, tgTup, tgEach, Nat.zero_add, Nat.reduceAdd, Nat.reduceSub, Nat.reduceLeDiff, Nat.reduceLT, Nat.zero_lt_succ, true_and, Nat.reduceEqDiff, line, ef, brF, brD]
end K71

namespace K71
open PySem PySem.Spec DL Giv
open L2 (Key atI ixN)
theorem nodup_len : ∀ {l l2 : List Int}, l.Nodup → (∀ x ∈ l, x ∈ l2) → l.length ≤ l2.length
  | [], _, _, _ => Nat.zero_le _
  | x :: t, l2, h, s => by
    rw [List.nodup_cons] at h
    have hx := s x (by simp)
    have := nodup_len (l2 := l2.erase x) h.2 fun y hy => (List.mem_erase_of_ne (fun e : y = x => h.1 (e ▸ hy))).mpr (s y (by simp [hy]))
    rw [List.length_erase_of_mem hx] at this
    have := List.length_pos_of_mem hx
    simp only [List.length_cons]
    omega
theorem sortI_congr {l1 l2 : List Int} (p : l1.Perm l2) : sortI l1 = sortI l2 := by
  refine List.Perm.eq_of_pairwise (fun a b _ _ h1 h2 => Int.le_antisymm h1 h2) (sortI_sorted l1) (sortI_sorted l2) ?_
  exact (sortI_perm l1).trans (p.trans (sortI_perm l2).symm)
theorem perm_nodup {l1 l2 : List Int} (h1 : l1.Nodup) (h2 : l2.Nodup) (h : ∀ x, x ∈ l1 ↔ x ∈ l2) : l1.Perm l2 := (List.perm_ext_iff_of_nodup h1 h2).mpr h
theorem keyInts_of : ∀ {kvs : List (Key × D)} {l : List Int}, kvs.map (·.1) = l.map Sum.inl → keyInts kvs = some l
  | [], [], _ => rfl
  | [], _ :: _, h => by simp at h
  | _ :: _, [], h => by simp at h
  | (k, d) :: kvs, x :: l, h => by
    simp only [List.map_cons, List.cons.injEq] at h
    obtain ⟨rfl, h⟩ := h
    simp only [keyInts, keyInts_of h, Option.map]
theorem cells_by_ok {S : Sto} {ps : List Int} {sh fl} {c : Int → Int} (nd : ps.Nodup) (hl : ps.length < 1000) : F_cells_by [.im (heapT ps c sh fl)] S = .ok (.vd (ps.map fun p => (.inl p, cellD sh fl p (c p)))) S := by
  have e1 : seqS (slot true 0) [some (.im (heapT ps c sh fl)), none] S = .ok (constG (ps.map fun p => cellD sh fl p (c p)), (ps.map fun p => cellD sh fl p (c p)).length) S := by
    simp only [ap_seqS, ↓ap_bind, ↓ap_bindS, ↓ap_seqM, ↓ap_skipM, ↓ap_un, ↓ap_bin, ↓ap_slot, ↓ap_cst, ↓ap_andM, ↓ap_orM, ↓ap_notM, ↓ap_iteM, ↓ap_argsN, ↓ap_argsC, ↓ap_tupM, ↓ap_lstM, ↓ap_escM, ↓ap_appA, ↓ap_callM, ↓ap_exprM, ↓ap_retM, ↓ap_retN, ↓ap_ifM, ↓ap_setM, ↓ap_asgM, ↓ap_parM, ↓ap_par3M, ↓ap_putM, ↓ap_putOwnM, ↓ap_putFldM, ↓ap_methM, ↓ap_lmM, ↓ap_appendOwnM, ↓ap_dpopM, ↓ap_dpop2M, ↓ap_chainM, ↓ap_isiM, ↓ap_sliceM, ↓ap_bdN, ↓ap_bdA, ↓ap_lam, startE, List.map_cons, List.map_nil, List.length_cons, List.length_nil, List.replicate, List.cons_append, List.nil_append, List.append_nil, List.set_cons_zero, List.set_cons_succ, List.getElem?_cons_zero, List.getElem?_cons_succ, T.own, Bool.false_and, Bool.true_and, Bool.not_true, Bool.not_false, Bool.and_false, Bool.and_true, reduceIte, Bool.false_eq_true, escs, esc, tgName, tgTup, tgEach, Nat.zero_add, Nat.reduceAdd, Nat.reduceSub, Nat.reduceLeDiff, Nat.reduceLT, Nat.zero_lt_succ, true_and, Nat.reduceEqDiff, line]
    rfl
  have e2 : dcM (seqS (slot true 0)) [1] (tgName 1) yesM (bin (slot true 1) (cst (.int 0)) ixO) (slot true 1) [some (.im (heapT ps c sh fl)), none] S = .ok (.vd (ps.map fun p => (.inl p, cellD sh fl p (c p)))) S := by
    rw [dcM_const e1, dcR_map (g := fun d => match d with | .tup (.int p :: _) => .inl p | _ => .inl 0) (y := fun d => match d with | .tup (x :: _) => .im x | _ => .im .non) (f := id)]
    · have : ((ps.map fun p => cellD sh fl p (c p)).map fun d => ((match d with | .tup (.int p :: _) => .inl p | _ => .inl 0 : Key), id d)) = ps.map fun p => (.inl p, cellD sh fl p (c p)) := by
        rw [List.map_map]
        rfl
      rw [this, mergeD_new (α := Nat)]
      · rfl
      · rw [keys_map]
        exact List.pairwise_map.mpr (nd.imp fun h e => h (by cases e; rfl))
      · intro k _ h; cases h
    · intro d hd
      obtain ⟨p, hp, rfl⟩ := List.mem_map.mp hd
      refine ⟨_, rfl, ?_, rfl, ?_⟩
      · simp only [↓ap_bind, ↓ap_bindS, ↓ap_seqM, ↓ap_skipM, ↓ap_un, ↓ap_bin, ↓ap_slot, ↓ap_cst, ↓ap_andM, ↓ap_orM, ↓ap_notM, ↓ap_iteM, ↓ap_argsN, ↓ap_argsC, ↓ap_tupM, ↓ap_lstM, ↓ap_escM, ↓ap_appA, ↓ap_callM, ↓ap_exprM, ↓ap_retM, ↓ap_retN, ↓ap_ifM, ↓ap_setM, ↓ap_asgM, ↓ap_parM, ↓ap_par3M, ↓ap_putM, ↓ap_putOwnM, ↓ap_putFldM, ↓ap_methM, ↓ap_lmM, ↓ap_appendOwnM, ↓ap_dpopM, ↓ap_dpop2M, ↓ap_chainM, ↓ap_isiM, ↓ap_sliceM, ↓ap_bdN, ↓ap_bdA, ↓ap_lam, startE, List.map_cons, List.map_nil, List.length_cons, List.length_nil, List.replicate, List.cons_append, List.nil_append, List.append_nil, List.set_cons_zero, List.set_cons_succ, List.getElem?_cons_zero, List.getElem?_cons_succ, T.own, Bool.false_and, Bool.true_and, Bool.not_true, Bool.not_false, Bool.and_false, Bool.and_true, reduceIte, Bool.false_eq_true, escs, esc, tgName, tgTup, tgEach, Nat.zero_add, Nat.reduceAdd, Nat.reduceSub, Nat.reduceLeDiff, Nat.reduceLT, Nat.zero_lt_succ, true_and, Nat.reduceEqDiff, line, wipeE, cellD, ix_tup, atI_0]
      · simp only [↓ap_bind, ↓ap_bindS, ↓ap_seqM, ↓ap_skipM, ↓ap_un, ↓ap_bin, ↓ap_slot, ↓ap_cst, ↓ap_andM, ↓ap_orM, ↓ap_notM, ↓ap_iteM, ↓ap_argsN, ↓ap_argsC, ↓ap_tupM, ↓ap_lstM, ↓ap_escM, ↓ap_appA, ↓ap_callM, ↓ap_exprM, ↓ap_retM, ↓ap_retN, ↓ap_ifM, ↓ap_setM, ↓ap_asgM, ↓ap_parM, ↓ap_par3M, ↓ap_putM, ↓ap_putOwnM, ↓ap_putFldM, ↓ap_methM, ↓ap_lmM, ↓ap_appendOwnM, ↓ap_dpopM, ↓ap_dpop2M, ↓ap_chainM, ↓ap_isiM, ↓ap_sliceM, ↓ap_bdN, ↓ap_bdA, ↓ap_lam, startE, List.map_cons, List.map_nil, List.length_cons, List.length_nil, List.replicate, List.cons_append, List.nil_append, List.append_nil, List.set_cons_zero, List.set_cons_succ, List.getElem?_cons_zero, List.getElem?_cons_succ, T.own, Bool.false_and, Bool.true_and, Bool.not_true, Bool.not_false, Bool.and_false, Bool.and_true, reduceIte, Bool.false_eq_true, escs, esc, tgName, tgTup, tgEach, Nat.zero_add, Nat.reduceAdd, Nat.reduceSub, Nat.reduceLeDiff, Nat.reduceLT, Nat.zero_lt_succ, true_and, Nat.reduceEqDiff, line, wipeE, id]
    · simp [line]; omega
  rw [F_cells_by, ap_runF, m_cells_by]
  simp only [↓ap_bind, ↓ap_bindS, ↓ap_seqM, ↓ap_skipM, ↓ap_un, ↓ap_bin, ↓ap_slot, ↓ap_cst, ↓ap_andM, ↓ap_orM, ↓ap_notM, ↓ap_iteM, ↓ap_argsN, ↓ap_argsC, ↓ap_tupM, ↓ap_lstM, ↓ap_escM, ↓ap_appA, ↓ap_callM, ↓ap_exprM, ↓ap_retM, ↓ap_retN, ↓ap_ifM, ↓ap_setM, ↓ap_asgM, ↓ap_parM, ↓ap_par3M, ↓ap_putM, ↓ap_putOwnM, ↓ap_putFldM, ↓ap_methM, ↓ap_lmM, ↓ap_appendOwnM, ↓ap_dpopM, ↓ap_dpop2M, ↓ap_chainM, ↓ap_isiM, ↓ap_sliceM, ↓ap_bdN, ↓ap_bdA, ↓ap_lam, startE, List.map_cons, List.map_nil, List.length_cons, List.length_nil, List.replicate, List.cons_append, List.nil_append, List.append_nil, List.set_cons_zero, List.set_cons_succ, List.getElem?_cons_zero, List.getElem?_cons_succ, T.own, Bool.false_and, Bool.true_and, Bool.not_true, Bool.not_false, Bool.and_false, Bool.and_true, reduceIte, Bool.false_eq_true, escs, esc, tgName, tgTup, tgEach, Nat.zero_add, Nat.reduceAdd, Nat.reduceSub, Nat.reduceLeDiff, Nat.reduceLT, Nat.zero_lt_succ, true_and, Nat.reduceEqDiff, line, e2]
theorem str_ne8 : (("cells" : Str) = ("row" : Str)) = False := by
  simp only [eq_iff_iff, iff_false]; decide +kernel
theorem make_ok {S : Sto} {ps : List Int} {sh fl} {c : Int → Int} {m : Mp} (nd : ps.Nodup) (hl : ps.length < 64) (hm : ∀ p, m p = if p ∈ ps then some (c p) else none) {ρ : Ev} (h0 : ρ[0]? = some (some (.im (heapT ps c sh fl)))) :
    ∃ S' nc nr, makeM "Drop" 1 F_Drop_init (argsM [(slot false 0)]) ρ S = .ok (.im (.ref S.length)) S' ∧ Dst S' S.length nc nr m [] sh fl ∧ Kp S S' ∧ S.length < nc ∧ S.length < nr := by
  generalize hkv : (ps.map fun p => ((Sum.inl p : Key), cellD sh fl p (c p))) = kvs
  have e1 : ∀ S, F_cells_by [.im (heapT ps c sh fl)] S = .ok (.vd kvs) S := fun S => by rw [← hkv]; exact cells_by_ok nd (by omega)
  generalize hS1 : S ++ [MO.ins "Drop" []] = S1
  have l1 : S1.length = S.length + 1 := by rw [← hS1]; simp
  have o1 : (S1 ++ [MO.dic kvs])[S.length]? = some (.ins "Drop" []) := by rw [← hS1]; exact get_app get_end
  generalize hS2 : (S1 ++ [MO.dic kvs]).set S.length (.ins "Drop" (putFD "cells" (.ref S1.length) [])) = S2
  have l2 : S2.length = S.length + 2 := by rw [← hS2]; simp [l1]
  have o2 : S2[S.length]? = some (.ins "Drop" [("cells", .ref S1.length)]) := by rw [← hS2]; exact get_same o1
  have c2 : S2[S1.length]? = some (.dic kvs) := by rw [← hS2, get_ne (by omega)]; exact get_end
  have o3 : (S2 ++ [MO.lst []])[S.length]? = some (.ins "Drop" [("cells", .ref S1.length)]) := get_app o2
  have ep : putFD "row" (.ref S2.length) [(("cells" : Str), D.ref S1.length)] = [(("cells" : Str), D.ref S1.length), (("row" : Str), D.ref S2.length)] := by
    simp only [putFD, str_ne8, if_false]
  generalize hS3 : (S2 ++ [MO.lst []]).set S.length (.ins "Drop" [("cells", .ref S1.length), ("row", .ref S2.length)]) = S3
  refine ⟨S3, S1.length, S2.length, ?_, ⟨?_, ⟨kvs, ?_, ?_⟩, ?_, by simp⟩, fun i o h => ?_, by omega, by omega⟩
  · have ei : F_Drop_init [.im (.ref S.length), .im (heapT ps c sh fl)] S1 = .ok (.im .non) S3 := by
      rw [F_Drop_init, ap_runF, m_Drop_init]
      simp only [↓ap_bind, ↓ap_bindS, ↓ap_seqM, ↓ap_skipM, ↓ap_un, ↓ap_bin, ↓ap_slot, ↓ap_cst, ↓ap_andM, ↓ap_orM, ↓ap_notM, ↓ap_iteM, ↓ap_argsN, ↓ap_argsC, ↓ap_tupM, ↓ap_lstM, ↓ap_escM, ↓ap_appA, ↓ap_callM, ↓ap_exprM, ↓ap_retM, ↓ap_retN, ↓ap_ifM, ↓ap_setM, ↓ap_asgM, ↓ap_parM, ↓ap_par3M, ↓ap_putM, ↓ap_putOwnM, ↓ap_putFldM, ↓ap_methM, ↓ap_lmM, ↓ap_appendOwnM, ↓ap_dpopM, ↓ap_dpop2M, ↓ap_chainM, ↓ap_isiM, ↓ap_sliceM, ↓ap_bdN, ↓ap_bdA, ↓ap_lam, startE, List.map_cons, List.map_nil, List.length_cons, List.length_nil, List.replicate, List.cons_append, List.nil_append, List.append_nil, List.set_cons_zero, List.set_cons_succ, List.getElem?_cons_zero, List.getElem?_cons_succ, T.own, Bool.false_and, Bool.true_and, Bool.not_true, Bool.not_false, Bool.and_false, Bool.and_true, reduceIte, Bool.false_eq_true, escs, esc, tgName, tgTup, tgEach, Nat.zero_add, Nat.reduceAdd, Nat.reduceSub, Nat.reduceLeDiff, Nat.reduceLT, Nat.zero_lt_succ, true_and, Nat.reduceEqDiff, line, e1, o1, hS2, o3, ep, hS3]
    simp only [↓ap_bind, ↓ap_bindS, ↓ap_seqM, ↓ap_skipM, ↓ap_un, ↓ap_bin, ↓ap_slot, ↓ap_cst, ↓ap_andM, ↓ap_orM, ↓ap_notM, ↓ap_iteM, ↓ap_argsN, ↓ap_argsC, ↓ap_tupM, ↓ap_lstM, ↓ap_escM, ↓ap_appA, ↓ap_callM, ↓ap_exprM, ↓ap_retM, ↓ap_retN, ↓ap_ifM, ↓ap_setM, ↓ap_asgM, ↓ap_parM, ↓ap_par3M, ↓ap_putM, ↓ap_putOwnM, ↓ap_putFldM, ↓ap_methM, ↓ap_lmM, ↓ap_appendOwnM, ↓ap_dpopM, ↓ap_dpop2M, ↓ap_chainM, ↓ap_isiM, ↓ap_sliceM, ↓ap_bdN, ↓ap_bdA, ↓ap_lam, startE, List.map_cons, List.map_nil, List.length_cons, List.length_nil, List.replicate, List.cons_append, List.nil_append, List.append_nil, List.set_cons_zero, List.set_cons_succ, List.getElem?_cons_zero, List.getElem?_cons_succ, T.own, Bool.false_and, Bool.true_and, Bool.not_true, Bool.not_false, Bool.and_false, Bool.and_true, reduceIte, Bool.false_eq_true, escs, esc, tgName, tgTup, tgEach, Nat.zero_add, Nat.reduceAdd, Nat.reduceSub, Nat.reduceLeDiff, Nat.reduceLT, Nat.zero_lt_succ, true_and, Nat.reduceEqDiff, line, ap_makeM, h0, hS1, ei]
  · rw [← hS3]; exact get_same o3
  · rw [← hS3, get_ne (by omega)]; exact get_app c2
  · refine ⟨fun w => ?_, ps, by rw [← hkv]; exact keys_map ps, nd, hl⟩
    rw [← hkv, getK_map, hm]
    split <;> rfl
  · rw [← hS3, get_ne (by omega)]
    exact get_end
  · have := get_lt h
    rw [← hS3, get_ne (by omega)]
    refine get_app ?_
    rw [← hS2, get_ne (by omega)]
    refine get_app ?_
    rw [← hS1]
    exact get_app h
theorem drop_heap {S : Sto} {nd nc nr : Nat} {m : Mp} {row ps : List Int} {sh fl} (d : Dst S nd nc nr m row sh fl) (hnd : ps.Nodup) (hm : ∀ p, (m p).isSome = true → p ∈ ps) : F_Drop_heap [.im (.ref nd)] S = .ok (.im (heapT (sortI (here ps m)) (fun p => (m p).getD 0) sh fl)) S := by
  obtain ⟨kvs, hc, hd⟩ := d.cel
  obtain ⟨l, h1, h2, h3⟩ := hd.keys
  have hmem : ∀ x, x ∈ l ↔ (m x).isSome = true := fun x => by
    have : (Sum.inl x : Key) ∈ kvs.map (·.1) ↔ (m x).isSome = true := by rw [← getK_some, hd.get]; cases m x <;> simp
    rw [← this, h1]
    simp
  have hp : l.Perm (here ps m) := perm_nodup h2 (hnd.filter _) fun x => by
    rw [hmem]
    unfold here
    rw [List.mem_filter]
    exact ⟨fun h => ⟨hm x h, h⟩, fun h => h.2⟩
  have e0 : sortedF [.im (.ref nc)] S = .ok (.vl ((sortI l).map D.int)) S := by
    unfold sortedF lstOf lstW dicOf
    simp only [hc, keyInts_of h1]
    rw [if_pos h3]
  have e1 : seqS (appA (argsM [(un (slot true 0) (fldO "Drop" "cells"))]) sortedF) [some (.im (.ref nd)), none] S = .ok (constG ((sortI l).map D.int), ((sortI l).map D.int).length) S := by
    simp only [ap_seqS, ↓ap_bind, ↓ap_bindS, ↓ap_seqM, ↓ap_skipM, ↓ap_un, ↓ap_bin, ↓ap_slot, ↓ap_cst, ↓ap_andM, ↓ap_orM, ↓ap_notM, ↓ap_iteM, ↓ap_argsN, ↓ap_argsC, ↓ap_tupM, ↓ap_lstM, ↓ap_escM, ↓ap_appA, ↓ap_callM, ↓ap_exprM, ↓ap_retM, ↓ap_retN, ↓ap_ifM, ↓ap_setM, ↓ap_asgM, ↓ap_parM, ↓ap_par3M, ↓ap_putM, ↓ap_putOwnM, ↓ap_putFldM, ↓ap_methM, ↓ap_lmM, ↓ap_appendOwnM, ↓ap_dpopM, ↓ap_dpop2M, ↓ap_chainM, ↓ap_isiM, ↓ap_sliceM, ↓ap_bdN, ↓ap_bdA, ↓ap_lam, startE, List.map_cons, List.map_nil, List.length_cons, List.length_nil, List.replicate, List.cons_append, List.nil_append, List.append_nil, List.set_cons_zero, List.set_cons_succ, List.getElem?_cons_zero, List.getElem?_cons_succ, T.own, Bool.false_and, Bool.true_and, Bool.not_true, Bool.not_false, Bool.and_false, Bool.and_true, reduceIte, Bool.false_eq_true, escs, esc, tgName, tgTup, tgEach, Nat.zero_add, Nat.reduceAdd, Nat.reduceSub, Nat.reduceLeDiff, Nat.reduceLT, Nat.zero_lt_succ, true_and, Nat.reduceEqDiff, line, fld_cells d.obj, e0, walkOf]
  have e2 : lcM (seqS (appA (argsM [(un (slot true 0) (fldO "Drop" "cells"))]) sortedF)) [1] (tgName 1) yesM (bin (un (slot true 0) (fldO "Drop" "cells")) (slot true 1) ixO) [some (.im (.ref nd)), none] S = .ok (.vl ((sortI l).map fun p => cellD sh fl p ((m p).getD 0))) S := by
    rw [lcM_const e1, lcR_map (f := fun d => match d with | .int p => cellD sh fl p ((m p).getD 0) | d => d)]
    · rw [List.map_map]
      rfl
    · intro d1 hd1
      obtain ⟨p, hp, rfl⟩ := List.mem_map.mp hd1
      rw [mem_sortI, hmem] at hp
      obtain ⟨c, hcp⟩ := Option.isSome_iff_exists.mp hp
      have hg : getK kvs (.inl p) = some (cellD sh fl p ((m p).getD 0)) := by rw [hd.get, hcp]; rfl
      have ex : ixO (.im (.ref nc)) (.im (.int p)) S = .ok (.im (cellD sh fl p ((m p).getD 0))) S := ixO_dic (.inl hc) rfl hg
      refine ⟨_, rfl, ?_⟩
      simp only [↓ap_bind, ↓ap_bindS, ↓ap_seqM, ↓ap_skipM, ↓ap_un, ↓ap_bin, ↓ap_slot, ↓ap_cst, ↓ap_andM, ↓ap_orM, ↓ap_notM, ↓ap_iteM, ↓ap_argsN, ↓ap_argsC, ↓ap_tupM, ↓ap_lstM, ↓ap_escM, ↓ap_appA, ↓ap_callM, ↓ap_exprM, ↓ap_retM, ↓ap_retN, ↓ap_ifM, ↓ap_setM, ↓ap_asgM, ↓ap_parM, ↓ap_par3M, ↓ap_putM, ↓ap_putOwnM, ↓ap_putFldM, ↓ap_methM, ↓ap_lmM, ↓ap_appendOwnM, ↓ap_dpopM, ↓ap_dpop2M, ↓ap_chainM, ↓ap_isiM, ↓ap_sliceM, ↓ap_bdN, ↓ap_bdA, ↓ap_lam, startE, List.map_cons, List.map_nil, List.length_cons, List.length_nil, List.replicate, List.cons_append, List.nil_append, List.append_nil, List.set_cons_zero, List.set_cons_succ, List.getElem?_cons_zero, List.getElem?_cons_succ, T.own, Bool.false_and, Bool.true_and, Bool.not_true, Bool.not_false, Bool.and_false, Bool.and_true, reduceIte, Bool.false_eq_true, escs, esc, tgName, tgTup, tgEach, Nat.zero_add, Nat.reduceAdd, Nat.reduceSub, Nat.reduceLeDiff, Nat.reduceLT, Nat.zero_lt_succ, true_and, Nat.reduceEqDiff, line, wipeE, fld_cells d.obj, ex]
    · have := (sortI_perm l).length_eq
      simp [line]; omega
  have hs := sortI_congr hp
  rw [F_Drop_heap, ap_runF, m_Drop_heap]
  simp only [↓ap_bind, ↓ap_bindS, ↓ap_seqM, ↓ap_skipM, ↓ap_un, ↓ap_bin, ↓ap_slot, ↓ap_cst, ↓ap_andM, ↓ap_orM, ↓ap_notM, ↓ap_iteM, ↓ap_argsN, ↓ap_argsC, ↓ap_tupM, ↓ap_lstM, ↓ap_escM, ↓ap_appA, ↓ap_callM, ↓ap_exprM, ↓ap_retM, ↓ap_retN, ↓ap_ifM, ↓ap_setM, ↓ap_asgM, ↓ap_parM, ↓ap_par3M, ↓ap_putM, ↓ap_putOwnM, ↓ap_putFldM, ↓ap_methM, ↓ap_lmM, ↓ap_appendOwnM, ↓ap_dpopM, ↓ap_dpop2M, ↓ap_chainM, ↓ap_isiM, ↓ap_sliceM, ↓ap_bdN, ↓ap_bdA, ↓ap_lam, startE, List.map_cons, List.map_nil, List.length_cons, List.length_nil, List.replicate, List.cons_append, List.nil_append, List.append_nil, List.set_cons_zero, List.set_cons_succ, List.getElem?_cons_zero, List.getElem?_cons_succ, T.own, Bool.false_and, Bool.true_and, Bool.not_true, Bool.not_false, Bool.and_false, Bool.and_true, reduceIte, Bool.false_eq_true, escs, esc, tgName, tgTup, tgEach, Nat.zero_add, Nat.reduceAdd, Nat.reduceSub, Nat.reduceLeDiff, Nat.reduceLT, Nat.zero_lt_succ, true_and, Nat.reduceEqDiff, line, e2, tupleF, lstOf, lstW, hs]
  rfl
theorem fb_pre {x : List Int} : ∀ {ws : List Int} {m : Mp} {l : List Int}, fb m (x ++ l) ws = ((fb m l ws).1, (fb m l ws).2.1, x ++ (fb m l ws).2.2)
  | [], m, l => rfl
  | w :: ws, m, l => by
    unfold fb
    split
    · split
      · rfl
      · split
        · rw [List.append_assoc]; exact fb_pre
        · exact fb_pre
    · exact fb_pre
abbrev condFI : M := (andM (bin (slot true 4) (cst .non) isO) (bin (appA (argsM [(slot true 3)]) lenF) (appA (argsM [(un (slot true 2) (fldO "Drop" "row"))]) lenF) (cmpI fun i j => decide (i < j))))
abbrev bodyFI : MS := (seqM (setM 5 (bin (un (slot true 2) (fldO "Drop" "row")) (appA (argsM [(slot true 3)]) lenF) ixO)) (seqM (setM 4 (methM "Drop" "first_broken" 1 F_Drop_first_broken (slot true 2) (argsM [(bin (bin (un (slot true 2) (fldO "Drop" "cells")) (slot true 5) ixO) (cst (.int 3)) ixO)]))) (seqM (exprM (dpop2M (un (slot true 2) (fldO "Drop" "cells")) (slot true 5) (cst .non))) (seqM (appendOwnM 3 (slot true 5)) skipM))))
theorem isO_non {S : Sto} : isO (.im .non) (.im .non) S = .ok (.im (.bl true)) S := rfl
theorem isO_int {S : Sto} {i : Int} : isO (.im (.int i)) (.im .non) S = .ok (.im (.bl false)) S := rfl
theorem isnO_non {S : Sto} : isnO (.im .non) (.im .non) S = .ok (.im (.bl false)) S := rfl
theorem isnO_int {S : Sto} {i : Int} : isnO (.im (.int i)) (.im .non) S = .ok (.im (.bl true)) S := rfl
theorem lenF_vl {S : Sto} {ds : List D} : lenF [.vl ds] S = .ok (.im (.int ds.length)) S := rfl
def endFI (ps : List Int) (sh : Int → Str) (fl : Int → List Int) (nd nc nr : Nat) (S' : Sto) : Out → Option Int → List Int → Prop
  | .broken w, br, _ => br = some w
  | .freed fr m, br, frx => br = none ∧ frx = fr ∧ Dst S' nd nc nr m fr sh fl ∧ ∀ p, (m p).isSome = true → p ∈ ps
theorem freed_loop {ps : List Int} {sh fl} {nd nc nr : Nat} {h w : Option T} (hnd : ps.Nodup) (hfl : ∀ p ∈ ps, (fl p).length < 1000) : ∀ (k : Nat) (m : Mp) (fr l : List Int) (o : Out) (S : Sto) (v5 : Option T) (K : Nat), go fl k m fr l = some o → Inv m l → Dst S nd nc nr m (fr ++ l) sh fl → (∀ p, (m p).isSome = true → p ∈ ps) → fr.length + (here ps m).length < 64 → k < K →
    ∃ S' br frx w5, whileM condFI bodyFI K [h, w, some (.im (.ref nd)), some (.vl (fr.map D.int)), some (.im .non), v5] S = .ok (.nx, [h, w, some (.im (.ref nd)), some (.vl (frx.map D.int)), some (.im (brD br)), w5]) S' ∧ endFI ps sh fl nd nc nr S' o br frx ∧ Kx nc nr S S'
  | 0, m, fr, l, o, S, v5, K, e, i, d, hm, hl, hK => by cases e
  | k + 1, m, fr, l, o, S, v5, 0, e, i, d, hm, hl, hK => by omega
  | k + 1, m, fr, [], o, S, v5, K + 1, e, i, d, hm, hl, hK => by
    cases e
    rw [List.append_nil] at d
    refine ⟨S, none, fr, v5, ?_, ⟨rfl, rfl, d, hm⟩, .refl⟩
    rw [ap_while]
    simp only [↓ap_bind, ↓ap_bindS, ↓ap_seqM, ↓ap_skipM, ↓ap_un, ↓ap_bin, ↓ap_slot, ↓ap_cst, ↓ap_andM, ↓ap_orM, ↓ap_notM, ↓ap_iteM, ↓ap_argsN, ↓ap_argsC, ↓ap_tupM, ↓ap_lstM, ↓ap_escM, ↓ap_appA, ↓ap_callM, ↓ap_exprM, ↓ap_retM, ↓ap_retN, ↓ap_ifM, ↓ap_setM, ↓ap_asgM, ↓ap_parM, ↓ap_par3M, ↓ap_putM, ↓ap_putOwnM, ↓ap_putFldM, ↓ap_methM, ↓ap_lmM, ↓ap_appendOwnM, ↓ap_dpopM, ↓ap_dpop2M, ↓ap_chainM, ↓ap_isiM, ↓ap_sliceM, ↓ap_bdN, ↓ap_bdA, ↓ap_lam, startE, List.map_cons, List.map_nil, List.length_cons, List.length_nil, List.replicate, List.cons_append, List.nil_append, List.append_nil, List.set_cons_zero, List.set_cons_succ, List.getElem?_cons_zero, List.getElem?_cons_succ, T.own, Bool.false_and, Bool.true_and, Bool.not_true, Bool.not_false, Bool.and_false, Bool.and_true, reduceIte, Bool.false_eq_true, escs, esc, tgName, tgTup, tgEach, Nat.zero_add, Nat.reduceAdd, Nat.reduceSub, Nat.reduceLeDiff, Nat.reduceLT, Nat.zero_lt_succ, true_and, Nat.reduceEqDiff, line, isO_non, lenF_vl, fld_row d.obj, lenF_ref d.rw_, cmpI_i, List.length_map, Int.lt_irrefl, decide_false, brD]
  | k + 1, m, fr, p :: q, o, S, v5, K + 1, e, i, d, hm, hl, hK => by
    obtain ⟨c, hc, _⟩ := i.2 p (by simp)
    have hps : p ∈ ps := hm p (by rw [hc]; rfl)
    have hfp := hfl p hps
    have hin : ∀ x ∈ p :: q, x ∈ here ps m := fun x hx => by
      obtain ⟨c', h', _⟩ := i.2 x hx
      unfold here
      rw [List.mem_filter]
      exact ⟨hm x (by rw [h']; rfl), by rw [h']; rfl⟩
    have hpl := nodup_len i.1 hin
    obtain ⟨kvs, hkc, hkd⟩ := d.cel
    have hgp : getK kvs (.inl p) = some (cellD sh fl p c) := by rw [hkd.get, hc]; rfl
    obtain ⟨S1, br, m', row', ef, e1, d1, k1⟩ := first_ok (t := .im (.tup ((fl p).map D.int))) (ws := fl p) d (.inl rfl) (by simp at hpl ⊢; omega)
    rw [fb_pre] at ef
    generalize eg : fb m (p :: q) (fl p) = X at ef
    obtain ⟨br1, m1, l1⟩ := X
    simp only [Prod.mk.injEq] at ef
    obtain ⟨rfl, rfl, rfl⟩ := ef
    obtain ⟨q', rfl, i'⟩ := i.step eg
    obtain ⟨kvs1, hkc1, hkd1⟩ := d1.cel
    have hsome : (m1 p).isSome = true := by rw [fb_none eg, hc]; rfl
    obtain ⟨c1, hc1⟩ := Option.isSome_iff_exists.mp hsome
    have hgp1 : getK kvs1 (.inl p) = some (cellD sh fl p c1) := by rw [hkd1.get, hc1]; rfl
    have hcr : nc ≠ nr := fun e => by have := d1.rw_; rw [← e, hkc1] at this; cases this
    have hcd : nc ≠ nd := fun e => by have := d1.obj; rw [← e, hkc1] at this; cases this
    generalize hS2 : S1.set nc (.dic (dropD kvs1 (.inl p))) = S2
    have d2 : Dst S2 nd nc nr (up m1 p none) (fr ++ (p :: q')) sh fl := ⟨by rw [← hS2, get_ne hcd, d1.obj], ⟨_, by rw [← hS2]; exact get_same hkc1, hkd1.pop p⟩, by rw [← hS2, get_ne hcr, d1.rw_], d1.rlen⟩
    have k2 : Kx nc nr S S2 := k1.trans fun i o h1 h2 h3 => by rw [← hS2, get_ne (Ne.symm h1), h3]
    have hrow : (((fr ++ p :: q).map D.int))[fr.length]? = some (.int p) := by simp
    have ex1 : ixO (.im (.ref nr)) (.im (.int (fr.length : Nat))) S = .ok (.im (.int p)) S := ixO_lst d.rw_ hrow
    have ex2 : ixO (.im (.ref nc)) (.im (.int p)) S = .ok (.im (cellD sh fl p c)) S := ixO_dic (.inl hkc) rfl hgp
    have ex3 : ixO (.im (cellD sh fl p c)) (.im (.int 3)) S = .ok (.im (.tup ((fl p).map D.int))) S := by
      unfold cellD
      simp only [ix_tup, atI_3]
    have hdic : isDic S1 (.im (.ref nc)) = true := by unfold isDic; simp only [hkc1]
    have hfrl : (fr.length < 16777216) = True := by simp; omega
    have hap : fr.map D.int ++ [D.int p] = (fr ++ [p]).map D.int := by simp
    have ebody : bodyFI [h, w, some (.im (.ref nd)), some (.vl (fr.map D.int)), some (.im .non), v5] S = .ok (.nx, [h, w, some (.im (.ref nd)), some (.vl ((fr ++ [p]).map D.int)), some (.im (brD br1)), some (.im (.int p))]) S2 := by
      simp only [↓ap_bind, ↓ap_bindS, ↓ap_seqM, ↓ap_skipM, ↓ap_un, ↓ap_bin, ↓ap_slot, ↓ap_cst, ↓ap_andM, ↓ap_orM, ↓ap_notM, ↓ap_iteM, ↓ap_argsN, ↓ap_argsC, ↓ap_tupM, ↓ap_lstM, ↓ap_escM, ↓ap_appA, ↓ap_callM, ↓ap_exprM, ↓ap_retM, ↓ap_retN, ↓ap_ifM, ↓ap_setM, ↓ap_asgM, ↓ap_parM, ↓ap_par3M, ↓ap_putM, ↓ap_putOwnM, ↓ap_putFldM, ↓ap_methM, ↓ap_lmM, ↓ap_appendOwnM, ↓ap_dpopM, ↓ap_dpop2M, ↓ap_chainM, ↓ap_isiM, ↓ap_sliceM, ↓ap_bdN, ↓ap_bdA, ↓ap_lam, startE, List.map_cons, List.map_nil, List.length_cons, List.length_nil, List.replicate, List.cons_append, List.nil_append, List.append_nil, List.set_cons_zero, List.set_cons_succ, List.getElem?_cons_zero, List.getElem?_cons_succ, T.own, Bool.false_and, Bool.true_and, Bool.not_true, Bool.not_false, Bool.and_false, Bool.and_true, reduceIte, Bool.false_eq_true, escs, esc, tgName, tgTup, tgEach, Nat.zero_add, Nat.reduceAdd, Nat.reduceSub, Nat.reduceLeDiff, Nat.reduceLT, Nat.zero_lt_succ, true_and, Nat.reduceEqDiff, line, fld_row d.obj, lenF_vl, List.length_map, ex1, isIns_first d.obj, fld_cells d.obj, ex2, ex3, e1, fld_cells d1.obj, hdic, hkc1, keyD, hgp1, hS2, hfrl, hap]
    have hlt : ((fr.length : Int) < ((fr ++ p :: q).length : Nat)) := by simp; omega
    have econd : condFI [h, w, some (.im (.ref nd)), some (.vl (fr.map D.int)), some (.im .non), v5] S = .ok (.im (.bl true)) S := by
      simp only [↓ap_bind, ↓ap_bindS, ↓ap_seqM, ↓ap_skipM, ↓ap_un, ↓ap_bin, ↓ap_slot, ↓ap_cst, ↓ap_andM, ↓ap_orM, ↓ap_notM, ↓ap_iteM, ↓ap_argsN, ↓ap_argsC, ↓ap_tupM, ↓ap_lstM, ↓ap_escM, ↓ap_appA, ↓ap_callM, ↓ap_exprM, ↓ap_retM, ↓ap_retN, ↓ap_ifM, ↓ap_setM, ↓ap_asgM, ↓ap_parM, ↓ap_par3M, ↓ap_putM, ↓ap_putOwnM, ↓ap_putFldM, ↓ap_methM, ↓ap_lmM, ↓ap_appendOwnM, ↓ap_dpopM, ↓ap_dpop2M, ↓ap_chainM, ↓ap_isiM, ↓ap_sliceM, ↓ap_bdN, ↓ap_bdA, ↓ap_lam, startE, List.map_cons, List.map_nil, List.length_cons, List.length_nil, List.replicate, List.cons_append, List.nil_append, List.append_nil, List.set_cons_zero, List.set_cons_succ, List.getElem?_cons_zero, List.getElem?_cons_succ, T.own, Bool.false_and, Bool.true_and, Bool.not_true, Bool.not_false, Bool.and_false, Bool.and_true, reduceIte, Bool.false_eq_true, escs, esc, tgName, tgTup, tgEach, Nat.zero_add, Nat.reduceAdd, Nat.reduceSub, Nat.reduceLeDiff, Nat.reduceLT, Nat.zero_lt_succ, true_and, Nat.reduceEqDiff, line, isO_non, lenF_vl, fld_row d.obj, lenF_ref d.rw_, cmpI_i, List.length_map, decide_eq_true hlt]
    rw [ap_while, econd]
    simp only
    rw [ebody]
    simp only
    cases br1 with
    | some w1 =>
      have : o = .broken w1 := by
        unfold go at e
        rw [eg] at e
        cases e
        rfl
      subst this
      obtain ⟨K', rfl⟩ : ∃ K', K = K' + 1 := ⟨K - 1, by omega⟩
      refine ⟨S2, some w1, fr ++ [p], some (.im (.int p)), ?_, rfl, k2⟩
      rw [ap_while]
      simp only [↓ap_bind, ↓ap_bindS, ↓ap_seqM, ↓ap_skipM, ↓ap_un, ↓ap_bin, ↓ap_slot, ↓ap_cst, ↓ap_andM, ↓ap_orM, ↓ap_notM, ↓ap_iteM, ↓ap_argsN, ↓ap_argsC, ↓ap_tupM, ↓ap_lstM, ↓ap_escM, ↓ap_appA, ↓ap_callM, ↓ap_exprM, ↓ap_retM, ↓ap_retN, ↓ap_ifM, ↓ap_setM, ↓ap_asgM, ↓ap_parM, ↓ap_par3M, ↓ap_putM, ↓ap_putOwnM, ↓ap_putFldM, ↓ap_methM, ↓ap_lmM, ↓ap_appendOwnM, ↓ap_dpopM, ↓ap_dpop2M, ↓ap_chainM, ↓ap_isiM, ↓ap_sliceM, ↓ap_bdN, ↓ap_bdA, ↓ap_lam, startE, List.map_cons, List.map_nil, List.length_cons, List.length_nil, List.replicate, List.cons_append, List.nil_append, List.append_nil, List.set_cons_zero, List.set_cons_succ, List.getElem?_cons_zero, List.getElem?_cons_succ, T.own, Bool.false_and, Bool.true_and, Bool.not_true, Bool.not_false, Bool.and_false, Bool.and_true, reduceIte, Bool.false_eq_true, escs, esc, tgName, tgTup, tgEach, Nat.zero_add, Nat.reduceAdd, Nat.reduceSub, Nat.reduceLeDiff, Nat.reduceLT, Nat.zero_lt_succ, true_and, Nat.reduceEqDiff, line, brD, isO_int]
    | none =>
      have e2 : go fl k (up m1 p none) (fr ++ [p]) q' = some o := by
        unfold go at e
        rw [eg] at e
        exact e
      have hlen : (here ps (up m1 p none)).length + 1 = (here ps m).length := by
        rw [here_len hnd (by rw [here_fb eg]; exact hin p (by simp)), here_fb eg]
      obtain ⟨S', br, frx, w5, e3, e4, k3⟩ := freed_loop hnd hfl k (up m1 p none) (fr ++ [p]) q' o S2 (some (.im (.int p))) K e2 i' (by rw [List.append_assoc]; exact d2) (fun x hx => by
          unfold up at hx
          split at hx
          · cases hx
          · rw [fb_none eg] at hx; exact hm x hx) (by simp; omega) (by omega)
      exact ⟨S', br, frx, w5, e3, e4, k2.trans k3⟩
def outD (ps : List Int) (sh : Int → Str) (fl : Int → List Int) : Out → D
  | .broken w => .tup [.str "broken", .int w]
  | .freed fr m => .tup [.str "freed", .tup (fr.map D.int), heapT (sortI (here ps m)) (fun p => (m p).getD 0) sh fl]
theorem freed_in_ok {S : Sto} {ps : List Int} {sh fl} {c : Int → Int} {m : Mp} {w : Int} {k : Nat} {o : Out} (hnd : ps.Nodup) (hl : ps.length < 63) (hfl : ∀ p ∈ ps, (fl p).length < 1000) (hm : ∀ p, m p = if p ∈ ps then some (c p) else none) (e : drop fl k m w = some o) (hk : k < 1000) :
    ∃ S', F_freed_in [.im (heapT ps c sh fl), .im (.int w)] S = .ok (.im (outD ps sh fl o)) S' ∧ Kp S S' := by
  obtain ⟨S1, nc, nr, e1, d1, k1, lc, lr⟩ := make_ok (S := S) (c := c) (sh := sh) (fl := fl) (ρ := [some (.im (heapT ps c sh fl)), some (.im (.int w)), none, none, none, none]) hnd (by omega) hm rfl
  have d2 : Dst (S1 ++ [MO.lst [.int w]]) S.length nc nr m [] sh fl := by
    obtain ⟨kvs, h1, h2⟩ := d1.cel
    exact ⟨get_app d1.obj, ⟨kvs, get_app h1, h2⟩, get_app d1.rw_, d1.rlen⟩
  have hne1 : S1.length ≠ nc := by obtain ⟨kvs, h1, h2⟩ := d1.cel; have := get_lt h1; omega
  have hne2 : S1.length ≠ nr := by have := get_lt d1.rw_; omega
  obtain ⟨S2, br, m', row', ef, e2, d3, k3⟩ := first_ok (t := .im (.ref S1.length)) (ws := [w]) d2 (.inr ⟨_, rfl, hne1, hne2, get_end⟩) (by simp)
  have hmps : ∀ p, (m p).isSome = true → p ∈ ps := fun p h => by
    rw [hm] at h
    by_cases hp : p ∈ ps
    · exact hp
    · rw [if_neg hp] at h; cases h
  have kp : ∀ {S' : Sto}, Kx nc nr S2 S' → Kp S S' := fun {S'} k i o h => by
    have := get_lt h
    exact k i o (by omega) (by omega) (k3 i o (by omega) (by omega) (get_app (k1 i o h)))
  unfold drop at e
  rw [ef] at e
  cases br with
  | some w1 =>
    cases e
    refine ⟨S2, ?_, kp .refl⟩
    have ew : whileM condFI bodyFI 100000 [some (.im (heapT ps c sh fl)), some (.im (.int w)), some (.im (.ref S.length)), some (.vl []), some (.im (.int w1)), none] S2 = .ok (.nx, [some (.im (heapT ps c sh fl)), some (.im (.int w)), some (.im (.ref S.length)), some (.vl []), some (.im (.int w1)), none]) S2 := by
      rw [ap_while (k := 99999)]
      simp only [↓ap_bind, ↓ap_bindS, ↓ap_seqM, ↓ap_skipM, ↓ap_un, ↓ap_bin, ↓ap_slot, ↓ap_cst, ↓ap_andM, ↓ap_orM, ↓ap_notM, ↓ap_iteM, ↓ap_argsN, ↓ap_argsC, ↓ap_tupM, ↓ap_lstM, ↓ap_escM, ↓ap_appA, ↓ap_callM, ↓ap_exprM, ↓ap_retM, ↓ap_retN, ↓ap_ifM, ↓ap_setM, ↓ap_asgM, ↓ap_parM, ↓ap_par3M, ↓ap_putM, ↓ap_putOwnM, ↓ap_putFldM, ↓ap_methM, ↓ap_lmM, ↓ap_appendOwnM, ↓ap_dpopM, ↓ap_dpop2M, ↓ap_chainM, ↓ap_isiM, ↓ap_sliceM, ↓ap_bdN, ↓ap_bdA, ↓ap_lam, startE, List.map_cons, List.map_nil, List.length_cons, List.length_nil, List.replicate, List.cons_append, List.nil_append, List.append_nil, List.set_cons_zero, List.set_cons_succ, List.getElem?_cons_zero, List.getElem?_cons_succ, T.own, Bool.false_and, Bool.true_and, Bool.not_true, Bool.not_false, Bool.and_false, Bool.and_true, reduceIte, Bool.false_eq_true, escs, esc, tgName, tgTup, tgEach, Nat.zero_add, Nat.reduceAdd, Nat.reduceSub, Nat.reduceLeDiff, Nat.reduceLT, Nat.zero_lt_succ, true_and, Nat.reduceEqDiff, line, isO_int]
    rw [F_freed_in, ap_runF, m_freed_in]
    simp only [↓ap_bind, ↓ap_bindS, ↓ap_seqM, ↓ap_skipM, ↓ap_un, ↓ap_bin, ↓ap_slot, ↓ap_cst, ↓ap_andM, ↓ap_orM, ↓ap_notM, ↓ap_iteM, ↓ap_argsN, ↓ap_argsC, ↓ap_tupM, ↓ap_lstM, ↓ap_escM, ↓ap_appA, ↓ap_callM, ↓ap_exprM, ↓ap_retM, ↓ap_retN, ↓ap_ifM, ↓ap_setM, ↓ap_asgM, ↓ap_parM, ↓ap_par3M, ↓ap_putM, ↓ap_putOwnM, ↓ap_putFldM, ↓ap_methM, ↓ap_lmM, ↓ap_appendOwnM, ↓ap_dpopM, ↓ap_dpop2M, ↓ap_chainM, ↓ap_isiM, ↓ap_sliceM, ↓ap_bdN, ↓ap_bdA, ↓ap_lam, startE, List.map_cons, List.map_nil, List.length_cons, List.length_nil, List.replicate, List.cons_append, List.nil_append, List.append_nil, List.set_cons_zero, List.set_cons_succ, List.getElem?_cons_zero, List.getElem?_cons_succ, T.own, Bool.false_and, Bool.true_and, Bool.not_true, Bool.not_false, Bool.and_false, Bool.and_true, reduceIte, Bool.false_eq_true, escs, esc, tgName, tgTup, tgEach, Nat.zero_add, Nat.reduceAdd, Nat.reduceSub, Nat.reduceLeDiff, Nat.reduceLT, Nat.zero_lt_succ, true_and, Nat.reduceEqDiff, line, e1, isIns_first d1.obj, e2, brD, ew, isnO_int, outD]
  | none =>
    have i0 : Inv m [] := ⟨List.nodup_nil, fun p hp => by cases hp⟩
    obtain ⟨S3, br, frx, w5, e4, e5, k4⟩ := freed_loop (h := some (.im (heapT ps c sh fl))) (w := some (.im (.int w))) hnd hfl k m' [] row' o S2 none 100000 e (i0.fb ef) d3 (fun p hp => by rw [fb_none ef] at hp; exact hmps p hp) (by
      rw [here_fb ef]
      have := List.length_filter_le (fun p => (m p).isSome) ps
      unfold here
      simp; omega) (by omega)
    rw [List.map_nil] at e4
    refine ⟨S3, ?_, kp k4⟩
    rw [F_freed_in, ap_runF, m_freed_in]
    cases o with
    | broken w1 =>
      cases e5
      simp only [↓ap_bind, ↓ap_bindS, ↓ap_seqM, ↓ap_skipM, ↓ap_un, ↓ap_bin, ↓ap_slot, ↓ap_cst, ↓ap_andM, ↓ap_orM, ↓ap_notM, ↓ap_iteM, ↓ap_argsN, ↓ap_argsC, ↓ap_tupM, ↓ap_lstM, ↓ap_escM, ↓ap_appA, ↓ap_callM, ↓ap_exprM, ↓ap_retM, ↓ap_retN, ↓ap_ifM, ↓ap_setM, ↓ap_asgM, ↓ap_parM, ↓ap_par3M, ↓ap_putM, ↓ap_putOwnM, ↓ap_putFldM, ↓ap_methM, ↓ap_lmM, ↓ap_appendOwnM, ↓ap_dpopM, ↓ap_dpop2M, ↓ap_chainM, ↓ap_isiM, ↓ap_sliceM, ↓ap_bdN, ↓ap_bdA, ↓ap_lam, startE, List.map_cons, List.map_nil, List.length_cons, List.length_nil, List.replicate, List.cons_append, List.nil_append, List.append_nil, List.set_cons_zero, List.set_cons_succ, List.getElem?_cons_zero, List.getElem?_cons_succ, T.own, Bool.false_and, Bool.true_and, Bool.not_true, Bool.not_false, Bool.and_false, Bool.and_true, reduceIte, Bool.false_eq_true, escs, esc, tgName, tgTup, tgEach, Nat.zero_add, Nat.reduceAdd, Nat.reduceSub, Nat.reduceLeDiff, Nat.reduceLT, Nat.zero_lt_succ, true_and, Nat.reduceEqDiff, line, e1, isIns_first d1.obj, e2, brD, e4, isnO_int, outD]
    | freed fr m2 =>
      obtain ⟨rfl, rfl, d4, hm4⟩ := e5
      have e6 := drop_heap d4 hnd hm4
      simp only [↓ap_bind, ↓ap_bindS, ↓ap_seqM, ↓ap_skipM, ↓ap_un, ↓ap_bin, ↓ap_slot, ↓ap_cst, ↓ap_andM, ↓ap_orM, ↓ap_notM, ↓ap_iteM, ↓ap_argsN, ↓ap_argsC, ↓ap_tupM, ↓ap_lstM, ↓ap_escM, ↓ap_appA, ↓ap_callM, ↓ap_exprM, ↓ap_retM, ↓ap_retN, ↓ap_ifM, ↓ap_setM, ↓ap_asgM, ↓ap_parM, ↓ap_par3M, ↓ap_putM, ↓ap_putOwnM, ↓ap_putFldM, ↓ap_methM, ↓ap_lmM, ↓ap_appendOwnM, ↓ap_dpopM, ↓ap_dpop2M, ↓ap_chainM, ↓ap_isiM, ↓ap_sliceM, ↓ap_bdN, ↓ap_bdA, ↓ap_lam, startE, List.map_cons, List.map_nil, List.length_cons, List.length_nil, List.replicate, List.cons_append, List.nil_append, List.append_nil, List.set_cons_zero, List.set_cons_succ, List.getElem?_cons_zero, List.getElem?_cons_succ, T.own, Bool.false_and, Bool.true_and, Bool.not_true, Bool.not_false, Bool.and_false, Bool.and_true, reduceIte, Bool.false_eq_true, escs, esc, tgName, tgTup, tgEach, Nat.zero_add, Nat.reduceAdd, Nat.reduceSub, Nat.reduceLeDiff, Nat.reduceLT, Nat.zero_lt_succ, true_and, Nat.reduceEqDiff, line, e1, isIns_first d1.obj, e2, brD, e4, isnO_non, outD, tupleF, lstOf, lstW, isIns_heap d4.obj, e6]
end K71

namespace K71
open PySem PySem.Spec DL Giv
open L2 (Key atI ixN)
theorem whole_ok {S : Sto} {v lo hi : Int} : F_is_whole [.im (.int v), .im (.int lo), .im (.int hi)] S = .ok (.im (.bl (decide (lo ≤ v) && decide (v ≤ hi)))) S := by
  have t1 : tyLe "int" "int" = true := by decide
  have t2 : tyLe "int" "bool" = false := by decide
  rw [F_is_whole, ap_runF, m_is_whole]
  by_cases h : lo ≤ v
  · simp only [↓ap_bind, ↓ap_bindS, ↓ap_seqM, ↓ap_skipM, ↓ap_un, ↓ap_bin, ↓ap_slot, ↓ap_cst, ↓ap_andM, ↓ap_orM, ↓ap_notM, ↓ap_iteM, ↓ap_argsN, ↓ap_argsC, ↓ap_tupM, ↓ap_lstM, ↓ap_escM, ↓ap_appA, ↓ap_callM, ↓ap_exprM, ↓ap_retM, ↓ap_retN, ↓ap_ifM, ↓ap_setM, ↓ap_asgM, ↓ap_parM, ↓ap_par3M, ↓ap_putM, ↓ap_putOwnM, ↓ap_putFldM, ↓ap_methM, ↓ap_lmM, ↓ap_appendOwnM, ↓ap_dpopM, ↓ap_dpop2M, ↓ap_chainM, ↓ap_isiM, ↓ap_sliceM, ↓ap_bdN, ↓ap_bdA, ↓ap_lam, startE, List.map_cons, List.map_nil, List.length_cons, List.length_nil, List.replicate, List.cons_append, List.nil_append, List.append_nil, List.set_cons_zero, List.set_cons_succ, List.getElem?_cons_zero, List.getElem?_cons_succ, T.own, Bool.false_and, Bool.true_and, Bool.not_true, Bool.not_false, Bool.and_false, Bool.and_true, reduceIte, Bool.false_eq_true, escs, esc, tgName, tgTup, tgEach, Nat.zero_add, Nat.reduceAdd, Nat.reduceSub, Nat.reduceLeDiff, Nat.reduceLT, Nat.zero_lt_succ, true_and, Nat.reduceEqDiff, line, tyN, t1, t2, cmpI_i, decide_eq_true h]
  · simp only [↓ap_bind, ↓ap_bindS, ↓ap_seqM, ↓ap_skipM, ↓ap_un, ↓ap_bin, ↓ap_slot, ↓ap_cst, ↓ap_andM, ↓ap_orM, ↓ap_notM, ↓ap_iteM, ↓ap_argsN, ↓ap_argsC, ↓ap_tupM, ↓ap_lstM, ↓ap_escM, ↓ap_appA, ↓ap_callM, ↓ap_exprM, ↓ap_retM, ↓ap_retN, ↓ap_ifM, ↓ap_setM, ↓ap_asgM, ↓ap_parM, ↓ap_par3M, ↓ap_putM, ↓ap_putOwnM, ↓ap_putFldM, ↓ap_methM, ↓ap_lmM, ↓ap_appendOwnM, ↓ap_dpopM, ↓ap_dpop2M, ↓ap_chainM, ↓ap_isiM, ↓ap_sliceM, ↓ap_bdN, ↓ap_bdA, ↓ap_lam, startE, List.map_cons, List.map_nil, List.length_cons, List.length_nil, List.replicate, List.cons_append, List.nil_append, List.append_nil, List.set_cons_zero, List.set_cons_succ, List.getElem?_cons_zero, List.getElem?_cons_succ, T.own, Bool.false_and, Bool.true_and, Bool.not_true, Bool.not_false, Bool.and_false, Bool.and_true, reduceIte, Bool.false_eq_true, escs, esc, tgName, tgTup, tgEach, Nat.zero_add, Nat.reduceAdd, Nat.reduceSub, Nat.reduceLeDiff, Nat.reduceLT, Nat.zero_lt_succ, true_and, Nat.reduceEqDiff, line, tyN, t1, t2, cmpI_i, decide_eq_false h]
theorem tupOf_ok {S : Sto} {ds : List D} {lo hi : Int} : F_is_tuple_of [.im (.tup ds), .im (.int lo), .im (.int hi)] S = .ok (.im (.bl (decide (lo ≤ ds.length) && decide ((ds.length : Int) ≤ hi)))) S := by
  have t1 : tyLe "tuple" "tuple" = true := by decide
  have e : lenF [.im (.tup ds)] S = .ok (.im (.int ds.length)) S := rfl
  rw [F_is_tuple_of, ap_runF, m_is_tuple_of]
  by_cases h : lo ≤ ds.length
  · simp only [↓ap_bind, ↓ap_bindS, ↓ap_seqM, ↓ap_skipM, ↓ap_un, ↓ap_bin, ↓ap_slot, ↓ap_cst, ↓ap_andM, ↓ap_orM, ↓ap_notM, ↓ap_iteM, ↓ap_argsN, ↓ap_argsC, ↓ap_tupM, ↓ap_lstM, ↓ap_escM, ↓ap_appA, ↓ap_callM, ↓ap_exprM, ↓ap_retM, ↓ap_retN, ↓ap_ifM, ↓ap_setM, ↓ap_asgM, ↓ap_parM, ↓ap_par3M, ↓ap_putM, ↓ap_putOwnM, ↓ap_putFldM, ↓ap_methM, ↓ap_lmM, ↓ap_appendOwnM, ↓ap_dpopM, ↓ap_dpop2M, ↓ap_chainM, ↓ap_isiM, ↓ap_sliceM, ↓ap_bdN, ↓ap_bdA, ↓ap_lam, startE, List.map_cons, List.map_nil, List.length_cons, List.length_nil, List.replicate, List.cons_append, List.nil_append, List.append_nil, List.set_cons_zero, List.set_cons_succ, List.getElem?_cons_zero, List.getElem?_cons_succ, T.own, Bool.false_and, Bool.true_and, Bool.not_true, Bool.not_false, Bool.and_false, Bool.and_true, reduceIte, Bool.false_eq_true, escs, esc, tgName, tgTup, tgEach, Nat.zero_add, Nat.reduceAdd, Nat.reduceSub, Nat.reduceLeDiff, Nat.reduceLT, Nat.zero_lt_succ, true_and, Nat.reduceEqDiff, line, tyN, t1, e, cmpI_i, decide_eq_true h]
  · simp only [↓ap_bind, ↓ap_bindS, ↓ap_seqM, ↓ap_skipM, ↓ap_un, ↓ap_bin, ↓ap_slot, ↓ap_cst, ↓ap_andM, ↓ap_orM, ↓ap_notM, ↓ap_iteM, ↓ap_argsN, ↓ap_argsC, ↓ap_tupM, ↓ap_lstM, ↓ap_escM, ↓ap_appA, ↓ap_callM, ↓ap_exprM, ↓ap_retM, ↓ap_retN, ↓ap_ifM, ↓ap_setM, ↓ap_asgM, ↓ap_parM, ↓ap_par3M, ↓ap_putM, ↓ap_putOwnM, ↓ap_putFldM, ↓ap_methM, ↓ap_lmM, ↓ap_appendOwnM, ↓ap_dpopM, ↓ap_dpop2M, ↓ap_chainM, ↓ap_isiM, ↓ap_sliceM, ↓ap_bdN, ↓ap_bdA, ↓ap_lam, startE, List.map_cons, List.map_nil, List.length_cons, List.length_nil, List.replicate, List.cons_append, List.nil_append, List.append_nil, List.set_cons_zero, List.set_cons_succ, List.getElem?_cons_zero, List.getElem?_cons_succ, T.own, Bool.false_and, Bool.true_and, Bool.not_true, Bool.not_false, Bool.and_false, Bool.and_true, reduceIte, Bool.false_eq_true, escs, esc, tgName, tgTup, tgEach, Nat.zero_add, Nat.reduceAdd, Nat.reduceSub, Nat.reduceLeDiff, Nat.reduceLT, Nat.zero_lt_succ, true_and, Nat.reduceEqDiff, line, tyN, t1, e, cmpI_i, decide_eq_false h]
theorem word_ok {S : Sto} {w : Int} (h : -2147483648 ≤ w ∧ w ≤ 2147483647) : F_is_word [.im (.int w)] S = .ok (.im (.bl true)) S := by
  rw [F_is_word, ap_runF, m_is_word]
  have e : (decide ((-2147483648 : Int) ≤ w) && decide (w ≤ 2147483648 - 1)) = true := by simp; omega
  simp only [↓ap_bind, ↓ap_bindS, ↓ap_seqM, ↓ap_skipM, ↓ap_un, ↓ap_bin, ↓ap_slot, ↓ap_cst, ↓ap_andM, ↓ap_orM, ↓ap_notM, ↓ap_iteM, ↓ap_argsN, ↓ap_argsC, ↓ap_tupM, ↓ap_lstM, ↓ap_escM, ↓ap_appA, ↓ap_callM, ↓ap_exprM, ↓ap_retM, ↓ap_retN, ↓ap_ifM, ↓ap_setM, ↓ap_asgM, ↓ap_parM, ↓ap_par3M, ↓ap_putM, ↓ap_putOwnM, ↓ap_putFldM, ↓ap_methM, ↓ap_lmM, ↓ap_appendOwnM, ↓ap_dpopM, ↓ap_dpop2M, ↓ap_chainM, ↓ap_isiM, ↓ap_sliceM, ↓ap_bdN, ↓ap_bdA, ↓ap_lam, startE, List.map_cons, List.map_nil, List.length_cons, List.length_nil, List.replicate, List.cons_append, List.nil_append, List.append_nil, List.set_cons_zero, List.set_cons_succ, List.getElem?_cons_zero, List.getElem?_cons_succ, T.own, Bool.false_and, Bool.true_and, Bool.not_true, Bool.not_false, Bool.and_false, Bool.and_true, reduceIte, Bool.false_eq_true, escs, esc, tgName, tgTup, tgEach, Nat.zero_add, Nat.reduceAdd, Nat.reduceSub, Nat.reduceLeDiff, Nat.reduceLT, Nat.zero_lt_succ, true_and, Nat.reduceEqDiff, line, c_HALF, negO_i, opI0_i, whole_ok, e]
def fitsW (s : Str) (n : Nat) : Prop := (s = "link" ∧ n = 2) ∨ (s = "pair" ∧ n = 2) ∨ (s = "fun" ∧ 2 ≤ n ∧ n ≤ 80)
theorem kd_link : kdGet ["fun", "link", "pair"] [(.tup [(.int 2), (.int 80)]), (.tup [(.int 2), (.int 2)]), (.tup [(.int 2), (.int 2)])] ("link" : Str) = some (.tup [.int 2, .int 2]) := by rfl
theorem kd_pair : kdGet ["fun", "link", "pair"] [(.tup [(.int 2), (.int 80)]), (.tup [(.int 2), (.int 2)]), (.tup [(.int 2), (.int 2)])] ("pair" : Str) = some (.tup [.int 2, .int 2]) := by rfl
theorem kd_fun : kdGet ["fun", "link", "pair"] [(.tup [(.int 2), (.int 80)]), (.tup [(.int 2), (.int 2)]), (.tup [(.int 2), (.int 2)])] ("fun" : Str) = some (.tup [.int 2, .int 80]) := by rfl
theorem kd_of {s : Str} {n : Nat} (h : fitsW s n) : ∃ lo hi : Int, kdGet ["fun", "link", "pair"] [(.tup [(.int 2), (.int 80)]), (.tup [(.int 2), (.int 2)]), (.tup [(.int 2), (.int 2)])] s = some (.tup [.int lo, .int hi]) ∧ lo ≤ n ∧ (n : Int) ≤ hi := by
  rcases h with ⟨rfl, rfl⟩ | ⟨rfl, rfl⟩ | ⟨rfl, h1, h2⟩
  · exact ⟨2, 2, kd_link, by omega, by omega⟩
  · exact ⟨2, 2, kd_pair, by omega, by omega⟩
  · exact ⟨2, 80, kd_fun, by omega, by omega⟩
theorem boolsOf_true {α : Type} : ∀ l : List α, boolsOf (l.map fun _ => D.bl true) = some (l.map fun _ => true)
  | [] => rfl
  | x :: l => by simp only [List.map_cons, boolsOf, boolsOf_true l, Option.map]
theorem allF_true {α : Type} {l : List α} {S : Sto} : allF [.vl (l.map fun _ => D.bl true)] S = .ok (.im (.bl true)) S := by
  unfold allF lstOf lstW
  simp only [boolsOf_true]
  have : (l.map fun _ => true).all id = true := by simp
  rw [this]
structure Fit (ps : List Int) (c : Int → Int) (sh : Int → Str) (fl : Int → List Int) : Prop where
  len : ps.length ≤ 62
  place : ∀ p ∈ ps, 16 ≤ p ∧ p ≤ 2147483647 ∧ p % 4 = 0
  cnt : ∀ p ∈ ps, 1 ≤ c p ∧ c p ≤ 1000000
  shp : ∀ p ∈ ps, fitsW (sh p) (fl p).length
  wds : ∀ p ∈ ps, ∀ w ∈ fl p, -2147483648 ≤ w ∧ w ≤ 2147483647
  apart : ps.Pairwise fun p q => p + 8 + 4 * ((fl p).length : Nat) ≤ q
theorem fields_ok {S : Sto} {s : Str} {ws : List Int} (h : fitsW s ws.length) (hw : ∀ w ∈ ws, -2147483648 ≤ w ∧ w ≤ 2147483647) : F_fits_fields [.im (.str s), .im (.tup (ws.map D.int))] S = .ok (.im (.bl true)) S := by
  obtain ⟨lo, hi, e1, h1, h2⟩ := kd_of h
  have hlen : ws.length ≤ 80 := by rcases h with ⟨_, h⟩ | ⟨_, h⟩ | ⟨_, _, h⟩ <;> omega
  have e2 : ixO (.im c_WIDTHS) (.im (.str s)) S = .ok (.im (.tup [.int lo, .int hi])) S := by
    have : ixO (.im c_WIDTHS) (.im (.str s)) S = (match kdGet ["fun", "link", "pair"] [(.tup [(.int 2), (.int 80)]), (.tup [(.int 2), (.int 2)]), (.tup [(.int 2), (.int 2)])] s with
      | some d => .ok (.im d) S
      | none => .stuck) := rfl
    rw [this, e1]
  have e3 : (decide (lo ≤ (((ws.map D.int).length : Nat) : Int)) && decide ((((ws.map D.int).length : Nat) : Int) ≤ hi)) = true := by simp; omega
  have e4 : seqS (slot true 1) [some (.im (.str s)), some (.im (.tup (ws.map D.int))), some (.im (.int lo)), some (.im (.int hi)), none] S = .ok (constG (ws.map D.int), (ws.map D.int).length) S := by
    simp only [ap_seqS, ↓ap_bind, ↓ap_bindS, ↓ap_seqM, ↓ap_skipM, ↓ap_un, ↓ap_bin, ↓ap_slot, ↓ap_cst, ↓ap_andM, ↓ap_orM, ↓ap_notM, ↓ap_iteM, ↓ap_argsN, ↓ap_argsC, ↓ap_tupM, ↓ap_lstM, ↓ap_escM, ↓ap_appA, ↓ap_callM, ↓ap_exprM, ↓ap_retM, ↓ap_retN, ↓ap_ifM, ↓ap_setM, ↓ap_asgM, ↓ap_parM, ↓ap_par3M, ↓ap_putM, ↓ap_putOwnM, ↓ap_putFldM, ↓ap_methM, ↓ap_lmM, ↓ap_appendOwnM, ↓ap_dpopM, ↓ap_dpop2M, ↓ap_chainM, ↓ap_isiM, ↓ap_sliceM, ↓ap_bdN, ↓ap_bdA, ↓ap_lam, startE, List.map_cons, List.map_nil, List.length_cons, List.length_nil, List.replicate, List.cons_append, List.nil_append, List.append_nil, List.set_cons_zero, List.set_cons_succ, List.getElem?_cons_zero, List.getElem?_cons_succ, T.own, Bool.false_and, Bool.true_and, Bool.not_true, Bool.not_false, Bool.and_false, Bool.and_true, reduceIte, Bool.false_eq_true, escs, esc, tgName, tgTup, tgEach, Nat.zero_add, Nat.reduceAdd, Nat.reduceSub, Nat.reduceLeDiff, Nat.reduceLT, Nat.zero_lt_succ, true_and, Nat.reduceEqDiff, line, walkOf]
  have e5 : lcM (seqS (slot true 1)) [4] (tgName 4) yesM (callM 1 F_is_word (argsM [(slot false 4)])) [some (.im (.str s)), some (.im (.tup (ws.map D.int))), some (.im (.int lo)), some (.im (.int hi)), none] S = .ok (.vl ((ws.map D.int).map fun _ => .bl true)) S := by
    rw [lcM_const e4, lcR_map (f := fun _ => .bl true)]
    · rfl
    · intro d hd
      obtain ⟨w, hw1, rfl⟩ := List.mem_map.mp hd
      refine ⟨_, rfl, ?_⟩
      simp only [↓ap_bind, ↓ap_bindS, ↓ap_seqM, ↓ap_skipM, ↓ap_un, ↓ap_bin, ↓ap_slot, ↓ap_cst, ↓ap_andM, ↓ap_orM, ↓ap_notM, ↓ap_iteM, ↓ap_argsN, ↓ap_argsC, ↓ap_tupM, ↓ap_lstM, ↓ap_escM, ↓ap_appA, ↓ap_callM, ↓ap_exprM, ↓ap_retM, ↓ap_retN, ↓ap_ifM, ↓ap_setM, ↓ap_asgM, ↓ap_parM, ↓ap_par3M, ↓ap_putM, ↓ap_putOwnM, ↓ap_putFldM, ↓ap_methM, ↓ap_lmM, ↓ap_appendOwnM, ↓ap_dpopM, ↓ap_dpop2M, ↓ap_chainM, ↓ap_isiM, ↓ap_sliceM, ↓ap_bdN, ↓ap_bdA, ↓ap_lam, startE, List.map_cons, List.map_nil, List.length_cons, List.length_nil, List.replicate, List.cons_append, List.nil_append, List.append_nil, List.set_cons_zero, List.set_cons_succ, List.getElem?_cons_zero, List.getElem?_cons_succ, T.own, Bool.false_and, Bool.true_and, Bool.not_true, Bool.not_false, Bool.and_false, Bool.and_true, reduceIte, Bool.false_eq_true, escs, esc, tgName, tgTup, tgEach, Nat.zero_add, Nat.reduceAdd, Nat.reduceSub, Nat.reduceLeDiff, Nat.reduceLT, Nat.zero_lt_succ, true_and, Nat.reduceEqDiff, line, wipeE, word_ok (hw w hw1)]
    · simp [line]; omega
  rw [F_fits_fields, ap_runF, m_fits_fields]
  simp only [↓ap_bind, ↓ap_bindS, ↓ap_seqM, ↓ap_skipM, ↓ap_un, ↓ap_bin, ↓ap_slot, ↓ap_cst, ↓ap_andM, ↓ap_orM, ↓ap_notM, ↓ap_iteM, ↓ap_argsN, ↓ap_argsC, ↓ap_tupM, ↓ap_lstM, ↓ap_escM, ↓ap_appA, ↓ap_callM, ↓ap_exprM, ↓ap_retM, ↓ap_retN, ↓ap_ifM, ↓ap_setM, ↓ap_asgM, ↓ap_parM, ↓ap_par3M, ↓ap_putM, ↓ap_putOwnM, ↓ap_putFldM, ↓ap_methM, ↓ap_lmM, ↓ap_appendOwnM, ↓ap_dpopM, ↓ap_dpop2M, ↓ap_chainM, ↓ap_isiM, ↓ap_sliceM, ↓ap_bdN, ↓ap_bdA, ↓ap_lam, startE, List.map_cons, List.map_nil, List.length_cons, List.length_nil, List.replicate, List.cons_append, List.nil_append, List.append_nil, List.set_cons_zero, List.set_cons_succ, List.getElem?_cons_zero, List.getElem?_cons_succ, T.own, Bool.false_and, Bool.true_and, Bool.not_true, Bool.not_false, Bool.and_false, Bool.and_true, reduceIte, Bool.false_eq_true, escs, esc, tgName, tgTup, tgEach, Nat.zero_add, Nat.reduceAdd, Nat.reduceSub, Nat.reduceLeDiff, Nat.reduceLT, Nat.zero_lt_succ, true_and, Nat.reduceEqDiff, line, e2, tupOf_ok, e3, e5, allF_true]
theorem fits_cell_ok {S : Sto} {p c : Int} {sh fl} (hp : 16 ≤ p ∧ p ≤ 2147483647 ∧ p % 4 = 0) (hc : 1 ≤ c ∧ c ≤ 1000000) (hs : fitsW (sh p) (fl p).length) (hw : ∀ w ∈ fl p, -2147483648 ≤ w ∧ w ≤ 2147483647) : F_fits_cell [.im (cellD sh fl p c)] S = .ok (.im (.bl true)) S := by
  obtain ⟨lo, hi, e1, h1, h2⟩ := kd_of hs
  have t1 : tyLe "str" "str" = true := by decide
  have e2 : ninO (.im (.str (sh p))) (.im c_WIDTHS) S = .ok (.im (.bl false)) S := by
    have : ninO (.im (.str (sh p))) (.im c_WIDTHS) S = (match some (kdGet ["fun", "link", "pair"] [(.tup [(.int 2), (.int 80)]), (.tup [(.int 2), (.int 2)]), (.tup [(.int 2), (.int 2)])] (sh p)).isSome with
      | some r => .ok (.im (.bl !r)) S
      | none => .stuck) := rfl
    rw [this, e1]
    rfl
  have e4 : (decide ((16 : Int) ≤ p) && decide (p ≤ 2147483648 - 1)) = true := by simp; omega
  have e5 : decide (p % 4 = 0) = true := by simp; omega
  have e6 : (decide ((1 : Int) ≤ c) && decide (c ≤ 1000000)) = true := by simp; omega
  rw [F_fits_cell, ap_runF, m_fits_cell, cellD]
  have e7 : F_is_tuple_of [.im (.tup [.int p, .int c, .str (sh p), .tup ((fl p).map D.int)]), .im (.int 4), .im (.int 4)] S = .ok (.im (.bl true)) S := by
    rw [tupOf_ok]
    rfl
  have e8 : F_is_whole [.im (.int p), .im c_LEAST, .im (.int (2147483648 - 1))] S = .ok (.im (.bl true)) S := by rw [c_LEAST, whole_ok, e4]
  have e9 : F_is_whole [.im (.int c), .im (.int 1), .im c_HOLDERS] S = .ok (.im (.bl true)) S := by rw [c_HOLDERS, whole_ok, e6]
  simp only [↓ap_bind, ↓ap_bindS, ↓ap_seqM, ↓ap_skipM, ↓ap_un, ↓ap_bin, ↓ap_slot, ↓ap_cst, ↓ap_andM, ↓ap_orM, ↓ap_notM, ↓ap_iteM, ↓ap_argsN, ↓ap_argsC, ↓ap_tupM, ↓ap_lstM, ↓ap_escM, ↓ap_appA, ↓ap_callM, ↓ap_exprM, ↓ap_retM, ↓ap_retN, ↓ap_ifM, ↓ap_setM, ↓ap_asgM, ↓ap_parM, ↓ap_par3M, ↓ap_putM, ↓ap_putOwnM, ↓ap_putFldM, ↓ap_methM, ↓ap_lmM, ↓ap_appendOwnM, ↓ap_dpopM, ↓ap_dpop2M, ↓ap_chainM, ↓ap_isiM, ↓ap_sliceM, ↓ap_bdN, ↓ap_bdA, ↓ap_lam, startE, List.map_cons, List.map_nil, List.length_cons, List.length_nil, List.replicate, List.cons_append, List.nil_append, List.append_nil, List.set_cons_zero, List.set_cons_succ, List.getElem?_cons_zero, List.getElem?_cons_succ, T.own, Bool.false_and, Bool.true_and, Bool.not_true, Bool.not_false, Bool.and_false, Bool.and_true, reduceIte, Bool.false_eq_true, escs, esc, tgName, tgTup, tgEach, Nat.zero_add, Nat.reduceAdd, Nat.reduceSub, Nat.reduceLeDiff, Nat.reduceLT, Nat.zero_lt_succ, true_and, Nat.reduceEqDiff, line, e7, ix_tup, atI_0, atI_1, atI_2, atI_3, opI0_i, e8, points_ok, e5, e9, tyN, t1, e2, fields_ok hs hw]
theorem end_of_ok {S : Sto} {p c : Int} {sh fl} : F_end_of [.im (cellD sh fl p c)] S = .ok (.im (.int (p + 8 + 4 * ((fl p).length : Nat)))) S := by
  have e : lenF [.im (.tup ((fl p).map D.int))] S = .ok (.im (.int ((fl p).length : Nat))) S := by
    have : lenF [.im (.tup ((fl p).map D.int))] S = .ok (.im (.int (((fl p).map D.int).length : Nat))) S := rfl
    rw [this, List.length_map]
  rw [F_end_of, ap_runF, m_end_of, cellD]
  simp only [↓ap_bind, ↓ap_bindS, ↓ap_seqM, ↓ap_skipM, ↓ap_un, ↓ap_bin, ↓ap_slot, ↓ap_cst, ↓ap_andM, ↓ap_orM, ↓ap_notM, ↓ap_iteM, ↓ap_argsN, ↓ap_argsC, ↓ap_tupM, ↓ap_lstM, ↓ap_escM, ↓ap_appA, ↓ap_callM, ↓ap_exprM, ↓ap_retM, ↓ap_retN, ↓ap_ifM, ↓ap_setM, ↓ap_asgM, ↓ap_parM, ↓ap_par3M, ↓ap_putM, ↓ap_putOwnM, ↓ap_putFldM, ↓ap_methM, ↓ap_lmM, ↓ap_appendOwnM, ↓ap_dpopM, ↓ap_dpop2M, ↓ap_chainM, ↓ap_isiM, ↓ap_sliceM, ↓ap_bdN, ↓ap_bdA, ↓ap_lam, startE, List.map_cons, List.map_nil, List.length_cons, List.length_nil, List.replicate, List.cons_append, List.nil_append, List.append_nil, List.set_cons_zero, List.set_cons_succ, List.getElem?_cons_zero, List.getElem?_cons_succ, T.own, Bool.false_and, Bool.true_and, Bool.not_true, Bool.not_false, Bool.and_false, Bool.and_true, reduceIte, Bool.false_eq_true, escs, esc, tgName, tgTup, tgEach, Nat.zero_add, Nat.reduceAdd, Nat.reduceSub, Nat.reduceLeDiff, Nat.reduceLT, Nat.zero_lt_succ, true_and, Nat.reduceEqDiff, line, ix_tup, atI_0, atI_3, addO_i, e, opI_i (mulC_l (i := 4) (j := ((fl p).length : Nat)) (by omega))]
theorem zip_const {m : MA} {ρ : Ev} {S S1 : Sto} {a c : List D} (h : m ρ S = .ok [.im (.tup a), .im (.tup c)] S1) : zipTS m ρ S = .ok (constG (List.zipWith (fun x y => D.tup [x, y]) a c), (List.zipWith (fun x y => D.tup [x, y]) a c).length) S1 := by
  unfold zipTS
  rw [h]
  simp only [List.length_zipWith]
  rfl
theorem adj {c : Int → D} {R : Int → Int → Prop} : ∀ {ps : List Int}, ps.Pairwise R → ∀ d ∈ List.zipWith (fun x y => D.tup [x, y]) (ps.map c) ((ps.map c).drop 1), ∃ p q, p ∈ ps ∧ q ∈ ps ∧ d = .tup [c p, c q] ∧ R p q
  | [], _, d, h => by cases h
  | [p], _, d, h => by simp at h
  | p :: q :: ps, hp, d, h => by
    simp only [List.map_cons, List.drop_succ_cons, List.drop_zero, List.zipWith_cons_cons, List.mem_cons] at h
    rw [List.pairwise_cons] at hp
    rcases h with rfl | h
    · exact ⟨p, q, by simp, by simp, rfl, hp.1 q (by simp)⟩
    · obtain ⟨p', q', h1, h2, h3, h4⟩ := adj (c := c) hp.2 d (by simpa using h)
      exact ⟨p', q', by simp [h1], by simp [h2], h3, h4⟩
theorem cut1 (ds : List D) : cutD ds (some 1) none = ds.drop 1 := by
  unfold cutD HT.sIx
  cases ds with
  | nil => rfl
  | cons x xs => simp
theorem fits_heap_ok {S : Sto} {ps : List Int} {c : Int → Int} {sh fl} (f : Fit ps c sh fl) : F_fits_heap [.im (heapT ps c sh fl)] S = .ok (.im (.bl true)) S := by
  generalize hds : (ps.map fun p => cellD sh fl p (c p)) = ds
  have hh : heapT ps c sh fl = .tup ds := by rw [← hds]; rfl
  have hlen : ds.length = ps.length := by rw [← hds]; simp
  have e1 : F_is_tuple_of [.im (.tup ds), .im (.int 0), .im c_CELLS] S = .ok (.im (.bl true)) S := by
    rw [c_CELLS, tupOf_ok]
    have := f.len
    have : (decide ((0 : Int) ≤ (ds.length : Nat)) && decide (((ds.length : Nat) : Int) ≤ 1024)) = true := by simp; omega
    rw [this]
  have e2 : seqS (slot true 0) [some (.im (.tup ds)), none, none, none] S = .ok (constG ds, ds.length) S := by
    simp only [ap_seqS, ↓ap_bind, ↓ap_bindS, ↓ap_seqM, ↓ap_skipM, ↓ap_un, ↓ap_bin, ↓ap_slot, ↓ap_cst, ↓ap_andM, ↓ap_orM, ↓ap_notM, ↓ap_iteM, ↓ap_argsN, ↓ap_argsC, ↓ap_tupM, ↓ap_lstM, ↓ap_escM, ↓ap_appA, ↓ap_callM, ↓ap_exprM, ↓ap_retM, ↓ap_retN, ↓ap_ifM, ↓ap_setM, ↓ap_asgM, ↓ap_parM, ↓ap_par3M, ↓ap_putM, ↓ap_putOwnM, ↓ap_putFldM, ↓ap_methM, ↓ap_lmM, ↓ap_appendOwnM, ↓ap_dpopM, ↓ap_dpop2M, ↓ap_chainM, ↓ap_isiM, ↓ap_sliceM, ↓ap_bdN, ↓ap_bdA, ↓ap_lam, startE, List.map_cons, List.map_nil, List.length_cons, List.length_nil, List.replicate, List.cons_append, List.nil_append, List.append_nil, List.set_cons_zero, List.set_cons_succ, List.getElem?_cons_zero, List.getElem?_cons_succ, T.own, Bool.false_and, Bool.true_and, Bool.not_true, Bool.not_false, Bool.and_false, Bool.and_true, reduceIte, Bool.false_eq_true, escs, esc, tgName, tgTup, tgEach, Nat.zero_add, Nat.reduceAdd, Nat.reduceSub, Nat.reduceLeDiff, Nat.reduceLT, Nat.zero_lt_succ, true_and, Nat.reduceEqDiff, line, walkOf]
  have e3 : lcM (seqS (slot true 0)) [1] (tgName 1) yesM (callM 1 F_fits_cell (argsM [(slot false 1)])) [some (.im (.tup ds)), none, none, none] S = .ok (.vl (ds.map fun _ => .bl true)) S := by
    rw [lcM_const e2, lcR_map (f := fun _ => .bl true)]
    · rfl
    · intro d hd
      rw [← hds] at hd
      obtain ⟨p, hp, rfl⟩ := List.mem_map.mp hd
      refine ⟨_, rfl, ?_⟩
      simp only [↓ap_bind, ↓ap_bindS, ↓ap_seqM, ↓ap_skipM, ↓ap_un, ↓ap_bin, ↓ap_slot, ↓ap_cst, ↓ap_andM, ↓ap_orM, ↓ap_notM, ↓ap_iteM, ↓ap_argsN, ↓ap_argsC, ↓ap_tupM, ↓ap_lstM, ↓ap_escM, ↓ap_appA, ↓ap_callM, ↓ap_exprM, ↓ap_retM, ↓ap_retN, ↓ap_ifM, ↓ap_setM, ↓ap_asgM, ↓ap_parM, ↓ap_par3M, ↓ap_putM, ↓ap_putOwnM, ↓ap_putFldM, ↓ap_methM, ↓ap_lmM, ↓ap_appendOwnM, ↓ap_dpopM, ↓ap_dpop2M, ↓ap_chainM, ↓ap_isiM, ↓ap_sliceM, ↓ap_bdN, ↓ap_bdA, ↓ap_lam, startE, List.map_cons, List.map_nil, List.length_cons, List.length_nil, List.replicate, List.cons_append, List.nil_append, List.append_nil, List.set_cons_zero, List.set_cons_succ, List.getElem?_cons_zero, List.getElem?_cons_succ, T.own, Bool.false_and, Bool.true_and, Bool.not_true, Bool.not_false, Bool.and_false, Bool.and_true, reduceIte, Bool.false_eq_true, escs, esc, tgName, tgTup, tgEach, Nat.zero_add, Nat.reduceAdd, Nat.reduceSub, Nat.reduceLeDiff, Nat.reduceLT, Nat.zero_lt_succ, true_and, Nat.reduceEqDiff, line, wipeE, fits_cell_ok (f.place p hp) (f.cnt p hp) (f.shp p hp) (f.wds p hp)]
    · have := f.len
      simp [line]; omega
  have e4 : argsM [(slot true 0), (sliceM (slot true 0) (.at_ (cst (.int 1))) .no)] [some (.im (.tup ds)), none, none, none] S = .ok [.im (.tup ds), .im (.tup (ds.drop 1))] S := by
    simp only [↓ap_bind, ↓ap_bindS, ↓ap_seqM, ↓ap_skipM, ↓ap_un, ↓ap_bin, ↓ap_slot, ↓ap_cst, ↓ap_andM, ↓ap_orM, ↓ap_notM, ↓ap_iteM, ↓ap_argsN, ↓ap_argsC, ↓ap_tupM, ↓ap_lstM, ↓ap_escM, ↓ap_appA, ↓ap_callM, ↓ap_exprM, ↓ap_retM, ↓ap_retN, ↓ap_ifM, ↓ap_setM, ↓ap_asgM, ↓ap_parM, ↓ap_par3M, ↓ap_putM, ↓ap_putOwnM, ↓ap_putFldM, ↓ap_methM, ↓ap_lmM, ↓ap_appendOwnM, ↓ap_dpopM, ↓ap_dpop2M, ↓ap_chainM, ↓ap_isiM, ↓ap_sliceM, ↓ap_bdN, ↓ap_bdA, ↓ap_lam, startE, List.map_cons, List.map_nil, List.length_cons, List.length_nil, List.replicate, List.cons_append, List.nil_append, List.append_nil, List.set_cons_zero, List.set_cons_succ, List.getElem?_cons_zero, List.getElem?_cons_succ, T.own, Bool.false_and, Bool.true_and, Bool.not_true, Bool.not_false, Bool.and_false, Bool.and_true, reduceIte, Bool.false_eq_true, escs, esc, tgName, tgTup, tgEach, Nat.zero_add, Nat.reduceAdd, Nat.reduceSub, Nat.reduceLeDiff, Nat.reduceLT, Nat.zero_lt_succ, true_and, Nat.reduceEqDiff, line, slO, cut1]
  have e5 : lcM (zipTS (argsM [(slot true 0), (sliceM (slot true 0) (.at_ (cst (.int 1))) .no)])) [2, 3] (tgTup [(tgName 2), (tgName 3)]) yesM (bin (callM 1 F_end_of (argsM [(slot false 2)])) (bin (slot true 3) (cst (.int 0)) ixO) (cmpI fun i j => decide (i ≤ j))) [some (.im (.tup ds)), none, none, none] S = .ok (.vl ((List.zipWith (fun x y => D.tup [x, y]) ds (ds.drop 1)).map fun _ => .bl true)) S := by
    rw [lcM_const (zip_const e4), lcR_map (f := fun _ => .bl true)]
    · rfl
    · intro d hd
      rw [← hds] at hd
      obtain ⟨p, q, hp, hq, rfl, hr⟩ := adj f.apart d hd
      refine ⟨_, rfl, ?_⟩
      have e6 : ixO (.im (cellD sh fl q (c q))) (.im (.int 0)) S = .ok (.im (.int q)) S := by unfold cellD; simp only [ix_tup, atI_0]
      simp only [↓ap_bind, ↓ap_bindS, ↓ap_seqM, ↓ap_skipM, ↓ap_un, ↓ap_bin, ↓ap_slot, ↓ap_cst, ↓ap_andM, ↓ap_orM, ↓ap_notM, ↓ap_iteM, ↓ap_argsN, ↓ap_argsC, ↓ap_tupM, ↓ap_lstM, ↓ap_escM, ↓ap_appA, ↓ap_callM, ↓ap_exprM, ↓ap_retM, ↓ap_retN, ↓ap_ifM, ↓ap_setM, ↓ap_asgM, ↓ap_parM, ↓ap_par3M, ↓ap_putM, ↓ap_putOwnM, ↓ap_putFldM, ↓ap_methM, ↓ap_lmM, ↓ap_appendOwnM, ↓ap_dpopM, ↓ap_dpop2M, ↓ap_chainM, ↓ap_isiM, ↓ap_sliceM, ↓ap_bdN, ↓ap_bdA, ↓ap_lam, startE, List.map_cons, List.map_nil, List.length_cons, List.length_nil, List.replicate, List.cons_append, List.nil_append, List.append_nil, List.set_cons_zero, List.set_cons_succ, List.getElem?_cons_zero, List.getElem?_cons_succ, T.own, Bool.false_and, Bool.true_and, Bool.not_true, Bool.not_false, Bool.and_false, Bool.and_true, reduceIte, Bool.false_eq_true, escs, esc, tgName, tgTup, tgEach, Nat.zero_add, Nat.reduceAdd, Nat.reduceSub, Nat.reduceLeDiff, Nat.reduceLT, Nat.zero_lt_succ, true_and, Nat.reduceEqDiff, line, wipeE, end_of_ok, e6, cmpI_i, decide_eq_true hr]
    · have := f.len
      simp only [List.length_nil, List.length_zipWith, List.length_drop, line]
      omega
  rw [hh, F_fits_heap, ap_runF, m_fits_heap]
  simp only [↓ap_bind, ↓ap_bindS, ↓ap_seqM, ↓ap_skipM, ↓ap_un, ↓ap_bin, ↓ap_slot, ↓ap_cst, ↓ap_andM, ↓ap_orM, ↓ap_notM, ↓ap_iteM, ↓ap_argsN, ↓ap_argsC, ↓ap_tupM, ↓ap_lstM, ↓ap_escM, ↓ap_appA, ↓ap_callM, ↓ap_exprM, ↓ap_retM, ↓ap_retN, ↓ap_ifM, ↓ap_setM, ↓ap_asgM, ↓ap_parM, ↓ap_par3M, ↓ap_putM, ↓ap_putOwnM, ↓ap_putFldM, ↓ap_methM, ↓ap_lmM, ↓ap_appendOwnM, ↓ap_dpopM, ↓ap_dpop2M, ↓ap_chainM, ↓ap_isiM, ↓ap_sliceM, ↓ap_bdN, ↓ap_bdA, ↓ap_lam, startE, List.map_cons, List.map_nil, List.length_cons, List.length_nil, List.replicate, List.cons_append, List.nil_append, List.append_nil, List.set_cons_zero, List.set_cons_succ, List.getElem?_cons_zero, List.getElem?_cons_succ, T.own, Bool.false_and, Bool.true_and, Bool.not_true, Bool.not_false, Bool.and_false, Bool.and_true, reduceIte, Bool.false_eq_true, escs, esc, tgName, tgTup, tgEach, Nat.zero_add, Nat.reduceAdd, Nat.reduceSub, Nat.reduceLeDiff, Nat.reduceLT, Nat.zero_lt_succ, true_and, Nat.reduceEqDiff, line, e1, e3, allF_true, e5]
theorem freed_by_ok {S : Sto} {ps : List Int} {c : Int → Int} {sh fl} {m : Mp} {w : Int} {k : Nat} {o : Out} (f : Fit ps c sh fl) (hnd : ps.Nodup) (hm : ∀ p, m p = if p ∈ ps then some (c p) else none) (e : drop fl k m w = some o) (hk : k < 1000) (hw : -2147483648 ≤ w ∧ w ≤ 2147483647) :
    ∃ S', F_freed_by [.im (heapT ps c sh fl), .im (.int w)] S = .ok (.im (outD ps sh fl o)) S' ∧ Kp S S' := by
  have hlen := f.len
  obtain ⟨S', e1, k1⟩ := freed_in_ok (S := S) (sh := sh) hnd (by omega) (fun p hp => by
    rcases f.shp p hp with ⟨_, h⟩ | ⟨_, h⟩ | ⟨_, _, h⟩ <;> omega) hm e hk
  refine ⟨S', ?_, k1⟩
  have e2 : F_need_heap [.im (heapT ps c sh fl)] S = .ok (.im .non) S := by
    rw [F_need_heap, ap_runF, m_need_heap]
    simp only [↓ap_bind, ↓ap_bindS, ↓ap_seqM, ↓ap_skipM, ↓ap_un, ↓ap_bin, ↓ap_slot, ↓ap_cst, ↓ap_andM, ↓ap_orM, ↓ap_notM, ↓ap_iteM, ↓ap_argsN, ↓ap_argsC, ↓ap_tupM, ↓ap_lstM, ↓ap_escM, ↓ap_appA, ↓ap_callM, ↓ap_exprM, ↓ap_retM, ↓ap_retN, ↓ap_ifM, ↓ap_setM, ↓ap_asgM, ↓ap_parM, ↓ap_par3M, ↓ap_putM, ↓ap_putOwnM, ↓ap_putFldM, ↓ap_methM, ↓ap_lmM, ↓ap_appendOwnM, ↓ap_dpopM, ↓ap_dpop2M, ↓ap_chainM, ↓ap_isiM, ↓ap_sliceM, ↓ap_bdN, ↓ap_bdA, ↓ap_lam, startE, List.map_cons, List.map_nil, List.length_cons, List.length_nil, List.replicate, List.cons_append, List.nil_append, List.append_nil, List.set_cons_zero, List.set_cons_succ, List.getElem?_cons_zero, List.getElem?_cons_succ, T.own, Bool.false_and, Bool.true_and, Bool.not_true, Bool.not_false, Bool.and_false, Bool.and_true, reduceIte, Bool.false_eq_true, escs, esc, tgName, tgTup, tgEach, Nat.zero_add, Nat.reduceAdd, Nat.reduceSub, Nat.reduceLeDiff, Nat.reduceLT, Nat.zero_lt_succ, true_and, Nat.reduceEqDiff, line, fits_heap_ok f]
  have e3 : F_need_words [.im (.int w)] S = .ok (.im .non) S := by
    rw [F_need_words, ap_runF, m_need_words]
    simp only [↓ap_bind, ↓ap_bindS, ↓ap_seqM, ↓ap_skipM, ↓ap_un, ↓ap_bin, ↓ap_slot, ↓ap_cst, ↓ap_andM, ↓ap_orM, ↓ap_notM, ↓ap_iteM, ↓ap_argsN, ↓ap_argsC, ↓ap_tupM, ↓ap_lstM, ↓ap_escM, ↓ap_appA, ↓ap_callM, ↓ap_exprM, ↓ap_retM, ↓ap_retN, ↓ap_ifM, ↓ap_setM, ↓ap_asgM, ↓ap_parM, ↓ap_par3M, ↓ap_putM, ↓ap_putOwnM, ↓ap_putFldM, ↓ap_methM, ↓ap_lmM, ↓ap_appendOwnM, ↓ap_dpopM, ↓ap_dpop2M, ↓ap_chainM, ↓ap_isiM, ↓ap_sliceM, ↓ap_bdN, ↓ap_bdA, ↓ap_lam, startE, List.map_cons, List.map_nil, List.length_cons, List.length_nil, List.replicate, List.cons_append, List.nil_append, List.append_nil, List.set_cons_zero, List.set_cons_succ, List.getElem?_cons_zero, List.getElem?_cons_succ, T.own, Bool.false_and, Bool.true_and, Bool.not_true, Bool.not_false, Bool.and_false, Bool.and_true, reduceIte, Bool.false_eq_true, escs, esc, tgName, tgTup, tgEach, Nat.zero_add, Nat.reduceAdd, Nat.reduceSub, Nat.reduceLeDiff, Nat.reduceLT, Nat.zero_lt_succ, true_and, Nat.reduceEqDiff, line, word_ok hw]
  rw [F_freed_by, ap_runF, m_freed_by]
  simp only [↓ap_bind, ↓ap_bindS, ↓ap_seqM, ↓ap_skipM, ↓ap_un, ↓ap_bin, ↓ap_slot, ↓ap_cst, ↓ap_andM, ↓ap_orM, ↓ap_notM, ↓ap_iteM, ↓ap_argsN, ↓ap_argsC, ↓ap_tupM, ↓ap_lstM, ↓ap_escM, ↓ap_appA, ↓ap_callM, ↓ap_exprM, ↓ap_retM, ↓ap_retN, ↓ap_ifM, ↓ap_setM, ↓ap_asgM, ↓ap_parM, ↓ap_par3M, ↓ap_putM, ↓ap_putOwnM, ↓ap_putFldM, ↓ap_methM, ↓ap_lmM, ↓ap_appendOwnM, ↓ap_dpopM, ↓ap_dpop2M, ↓ap_chainM, ↓ap_isiM, ↓ap_sliceM, ↓ap_bdN, ↓ap_bdA, ↓ap_lam, startE, List.map_cons, List.map_nil, List.length_cons, List.length_nil, List.replicate, List.cons_append, List.nil_append, List.append_nil, List.set_cons_zero, List.set_cons_succ, List.getElem?_cons_zero, List.getElem?_cons_succ, T.own, Bool.false_and, Bool.true_and, Bool.not_true, Bool.not_false, Bool.and_false, Bool.and_true, reduceIte, Bool.false_eq_true, escs, esc, tgName, tgTup, tgEach, Nat.zero_add, Nat.reduceAdd, Nat.reduceSub, Nat.reduceLeDiff, Nat.reduceLT, Nat.zero_lt_succ, true_and, Nat.reduceEqDiff, line, e2, e3, e1]
end K71

namespace K71
open PySem PySem.Spec DL Giv
open L2 (Key atI ixN)
structure Lst (S : Sto) (a b : Nat) (ps qs : List Int) (cn : Int → Int) (m : Mp) (sh : Int → Str) (fl : Int → List Int) (rf rg : Int → Nat) : Prop where
  A : S[a]? = some (.dic (cellKV qs rf))
  B : S[b]? = some (.dic (cntKV ps cn))
  m_ : ∀ p, m p = if p ∈ qs then some (cn p) else none
  sub : ∀ p ∈ qs, p ∈ ps
  nd : ps.Nodup
  ndq : qs.Nodup
  len : ps.length < 64
  r : Recs S ps sh fl rf rg
theorem atI_last {α : Type} (xs : List α) (x : α) : atI (xs ++ [x]) (-1) = some x := by
  unfold atI ixN
  rw [if_neg (by omega), if_pos (by simp; omega)]
  show (xs ++ [x])[((-1 : Int) + (((xs ++ [x]).length : Nat) : Int)).toNat]? = some x
  have : ((-1 : Int) + (((xs ++ [x]).length : Nat) : Int)).toNat = xs.length := by simp; omega
  rw [this]
  simp
theorem neO_vl {S : Sto} {l : List Int} : neO (.vl (l.map D.int)) (.vl []) S = .ok (.im (.bl (!l.isEmpty))) S := by
  have e2 : eqT S (.vl (l.map D.int)) (.vl []) = some l.isEmpty := by
    show eqvO ((mapO (toPy S 200) (l.map D.int)).map .list) (some (.list [])) = _
    rw [mapO_ints]
    unfold eqvO
    simp only [Option.map]
    rw [if_pos]
    · cases l <;> rfl
    · simp [PyData.canLay0, canInts, PyData.canLayAll0, PyData.depth, PyData.depthAll]
  unfold neO
  rw [e2]
abbrev innerLD : MS := (seqM (ifM (bin (bin (appA (argsM [(slot true 6)]) intF) (cst (.int 4)) (DL.opI modC (· % ·))) (cst (.int 0)) DL.eqO)
  (seqM (ifM (bin (slot true 6) (slot true 0) ninO)
  (seqM (retM (tupM (argsM [(cst (.str "broken")), (slot false 6)]))) skipM)
  skipM) (seqM (putM (bin (bin (slot true 1) (slot true 6) ixO) (cst (.int 1)) (opI0 (· - ·))) (slot true 1) (slot true 6)) (seqM (ifM (bin (bin (slot true 1) (slot true 6) ixO) (cst (.int 0)) DL.eqO)
  (seqM (appendOwnM 3 (slot true 6)) skipM)
  skipM) skipM)))
  skipM) skipM)
abbrev bodyLD : MS := (seqM (DL.forM (seqS (slot false 5)) (tgName 6) innerLD) (seqM (ifM (bin (slot true 4) (lstM (argsM [])) neO)
  (seqM (exprM (dpopM (slot true 0) (bin (slot true 4) (un (cst (.int 1)) negO) ixO))) skipM)
  skipM) (seqM (ifM (bin (appA (argsM [(slot true 4)]) lenF) (appA (argsM [(slot true 3)]) lenF) DL.eqO)
  (seqM (retM (tupM (argsM [(cst (.str "freed")), (appA (argsM [(slot true 4)]) tupleF)]))) skipM)
  skipM) (seqM (appendOwnM 4 (bin (slot true 3) (appA (argsM [(slot true 4)]) lenF) ixO)) (seqM (setM 5 (escM (appA (argsM [(bin (bin (slot true 0) (bin (slot true 4) (un (cst (.int 1)) negO) ixO) ixO) (cst (.int 1)) ixO)]) listF))) skipM)))))
def brokenT (w : Int) : D := .tup [.str "broken", .int w]
def freedT (fr : List Int) : D := .tup [.str "freed", .tup (fr.map D.int)]
def brL (br : Option Int) (ρ : Ev) (S : Sto) : Res (Fl × Ev) := match br with
  | none => .ok (.nx, ρ) S
  | some w => .ok (.rt (.im (brokenT w)), ρ) S
theorem inner_miss {S : Sto} {a b : Nat} {ps qs cn m sh fl rf rg} {v2 v4 v5 : Option T} {row : List Int} {w : Int} (L : Lst S a b ps qs cn m sh fl rf rg) (h4 : w % 4 = 0) (hm : m w = none) : innerLD [some (.im (.ref a)), some (.im (.ref b)), v2, some (.vl (row.map D.int)), v4, v5, some (.im (.int w))] S = .ok (.rt (.im (brokenT w)), [some (.im (.ref a)), some (.im (.ref b)), v2, some (.vl (row.map D.int)), v4, v5, some (.im (.int w))]) S := by
  have hg : getK (cellKV qs rf) (.inl w) = none := by
    unfold cellKV
    rw [getK_map, if_neg]
    intro h
    rw [L.m_, if_pos h] at hm
    cases hm
  simp only [↓ap_bind, ↓ap_bindS, ↓ap_seqM, ↓ap_skipM, ↓ap_un, ↓ap_bin, ↓ap_slot, ↓ap_cst, ↓ap_andM, ↓ap_orM, ↓ap_notM, ↓ap_iteM, ↓ap_argsN, ↓ap_argsC, ↓ap_tupM, ↓ap_lstM, ↓ap_escM, ↓ap_appA, ↓ap_callM, ↓ap_exprM, ↓ap_retM, ↓ap_retN, ↓ap_ifM, ↓ap_setM, ↓ap_asgM, ↓ap_parM, ↓ap_par3M, ↓ap_putM, ↓ap_putOwnM, ↓ap_putFldM, ↓ap_methM, ↓ap_lmM, ↓ap_appendOwnM, ↓ap_dpopM, ↓ap_dpop2M, ↓ap_chainM, ↓ap_isiM, ↓ap_sliceM, ↓ap_bdN, ↓ap_bdA, ↓ap_lam, startE, List.map_cons, List.map_nil, List.length_cons, List.length_nil, List.replicate, List.cons_append, List.nil_append, List.append_nil, List.set_cons_zero, List.set_cons_succ, List.getElem?_cons_zero, List.getElem?_cons_succ, T.own, Bool.false_and, Bool.true_and, Bool.not_true, Bool.not_false, Bool.and_false, Bool.and_true, reduceIte, Bool.false_eq_true, escs, esc, tgName, tgTup, tgEach, Nat.zero_add, Nat.reduceAdd, Nat.reduceSub, Nat.reduceLeDiff, Nat.reduceLT, Nat.zero_lt_succ, true_and, Nat.reduceEqDiff, line, intF_i, opI_i (modC_p (i := w) (j := 4) (by omega)), eqO_i, decide_eq_true h4, ninO_dic L.A, hg, Option.isSome, brokenT]
theorem inner_skip {S : Sto} {a b : Nat} {v2 v3 v4 v5 : Option T} {w : Int} (h4 : ¬ w % 4 = 0) : innerLD [some (.im (.ref a)), some (.im (.ref b)), v2, v3, v4, v5, some (.im (.int w))] S = .ok (.nx, [some (.im (.ref a)), some (.im (.ref b)), v2, v3, v4, v5, some (.im (.int w))]) S := by
  simp only [↓ap_bind, ↓ap_bindS, ↓ap_seqM, ↓ap_skipM, ↓ap_un, ↓ap_bin, ↓ap_slot, ↓ap_cst, ↓ap_andM, ↓ap_orM, ↓ap_notM, ↓ap_iteM, ↓ap_argsN, ↓ap_argsC, ↓ap_tupM, ↓ap_lstM, ↓ap_escM, ↓ap_appA, ↓ap_callM, ↓ap_exprM, ↓ap_retM, ↓ap_retN, ↓ap_ifM, ↓ap_setM, ↓ap_asgM, ↓ap_parM, ↓ap_par3M, ↓ap_putM, ↓ap_putOwnM, ↓ap_putFldM, ↓ap_methM, ↓ap_lmM, ↓ap_appendOwnM, ↓ap_dpopM, ↓ap_dpop2M, ↓ap_chainM, ↓ap_isiM, ↓ap_sliceM, ↓ap_bdN, ↓ap_bdA, ↓ap_lam, startE, List.map_cons, List.map_nil, List.length_cons, List.length_nil, List.replicate, List.cons_append, List.nil_append, List.append_nil, List.set_cons_zero, List.set_cons_succ, List.getElem?_cons_zero, List.getElem?_cons_succ, T.own, Bool.false_and, Bool.true_and, Bool.not_true, Bool.not_false, Bool.and_false, Bool.and_true, reduceIte, Bool.false_eq_true, escs, esc, tgName, tgTup, tgEach, Nat.zero_add, Nat.reduceAdd, Nat.reduceSub, Nat.reduceLeDiff, Nat.reduceLT, Nat.zero_lt_succ, true_and, Nat.reduceEqDiff, line, intF_i, opI_i (modC_p (i := w) (j := 4) (by omega)), eqO_i, decide_eq_false h4]
theorem inner_some {S : Sto} {a b : Nat} {ps qs cn m sh fl rf rg} {v2 v4 v5 : Option T} {row : List Int} {w c : Int} (L : Lst S a b ps qs cn m sh fl rf rg) (h4 : w % 4 = 0) (hm : m w = some c) (hr : row.length < 90000) : ∃ S' cn', innerLD [some (.im (.ref a)), some (.im (.ref b)), v2, some (.vl (row.map D.int)), v4, v5, some (.im (.int w))] S = .ok (.nx, [some (.im (.ref a)), some (.im (.ref b)), v2, some (.vl ((if c = 1 then row ++ [w] else row).map D.int)), v4, v5, some (.im (.int w))]) S' ∧ Lst S' a b ps qs cn' (up m w (some (c - 1))) sh fl rf rg ∧ Kx b b S S' := by
  have hq : w ∈ qs := by
    rw [L.m_] at hm
    by_cases h : w ∈ qs
    · exact h
    · rw [if_neg h] at hm; cases hm
  have hc : cn w = c := by rw [L.m_, if_pos hq] at hm; exact Option.some.inj hm
  have hp := L.sub w hq
  have hg : getK (cellKV qs rf) (.inl w) = some (.ref (rf w)) := by unfold cellKV; rw [getK_map, if_pos hq]
  have hgb : getK (cntKV ps cn) (.inl w) = some (.int c) := by unfold cntKV; rw [getK_map, if_pos hp, hc]
  have hab : a ≠ b := fun e => by
    have h1 := L.A
    rw [e, L.B] at h1
    have h2 : cntKV ps cn = cellKV qs rf := by injection h1 with h1; injection h1
    rw [h2, hg] at hgb
    cases hgb
  generalize hcn : (fun p => if p = w then c - 1 else cn p) = cn'
  have ep : putO (.dic (cntKV ps cn)) (.im (.int w)) (.int (c - 1)) = some (.dic (cntKV ps cn')) := by
    unfold putO
    simp only [keyD]
    have := L.len
    rw [if_pos (by unfold cntKV; simp [line]; omega)]
    unfold cntKV
    rw [putD_map L.nd hp, ← hcn]
    congr 2
    apply List.map_congr_left
    intro p _
    by_cases h : p = w
    · simp [h]
    · simp [h]
  generalize hS1 : S.set b (.dic (cntKV ps cn')) = S1
  have hB1 : S1[b]? = some (.dic (cntKV ps cn')) := by rw [← hS1]; exact get_same L.B
  have hgb1 : getK (cntKV ps cn') (.inl w) = some (.int (c - 1)) := by unfold cntKV; rw [getK_map, if_pos hp, ← hcn]; simp
  have e1 : ixO (.im (.ref b)) (.im (.int w)) S = .ok (.im (.int c)) S := ixO_dic (.inl L.B) rfl hgb
  have e2 : ixO (.im (.ref b)) (.im (.int w)) S1 = .ok (.im (.int (c - 1))) S1 := ixO_dic (.inl hB1) rfl hgb1
  refine ⟨S1, cn', ?_, ⟨by rw [← hS1, get_ne (Ne.symm hab), L.A], hB1, fun p => ?_, L.sub, L.nd, L.ndq, L.len, by rw [← hS1]; exact L.r.set fun ds h => by rw [L.B] at h; cases h⟩, fun i o h1 _ h3 => by rw [← hS1, get_ne (Ne.symm h1), h3]⟩
  · have hrl : (row.length < 16777216) = True := by simp; omega
    have happ : row.map D.int ++ [D.int w] = (row ++ [w]).map D.int := by simp
    by_cases h1 : c = 1
    · have h1' : c - 1 = 0 := by omega
      simp only [↓ap_bind, ↓ap_bindS, ↓ap_seqM, ↓ap_skipM, ↓ap_un, ↓ap_bin, ↓ap_slot, ↓ap_cst, ↓ap_andM, ↓ap_orM, ↓ap_notM, ↓ap_iteM, ↓ap_argsN, ↓ap_argsC, ↓ap_tupM, ↓ap_lstM, ↓ap_escM, ↓ap_appA, ↓ap_callM, ↓ap_exprM, ↓ap_retM, ↓ap_retN, ↓ap_ifM, ↓ap_setM, ↓ap_asgM, ↓ap_parM, ↓ap_par3M, ↓ap_putM, ↓ap_putOwnM, ↓ap_putFldM, ↓ap_methM, ↓ap_lmM, ↓ap_appendOwnM, ↓ap_dpopM, ↓ap_dpop2M, ↓ap_chainM, ↓ap_isiM, ↓ap_sliceM, ↓ap_bdN, ↓ap_bdA, ↓ap_lam, startE, List.map_cons, List.map_nil, List.length_cons, List.length_nil, List.replicate, List.cons_append, List.nil_append, List.append_nil, List.set_cons_zero, List.set_cons_succ, List.getElem?_cons_zero, List.getElem?_cons_succ, T.own, Bool.false_and, Bool.true_and, Bool.not_true, Bool.not_false, Bool.and_false, Bool.and_true, reduceIte, Bool.false_eq_true, escs, esc, tgName, tgTup, tgEach, Nat.zero_add, Nat.reduceAdd, Nat.reduceSub, Nat.reduceLeDiff, Nat.reduceLT, Nat.zero_lt_succ, true_and, Nat.reduceEqDiff, line, ap_putM, intF_i, opI_i (modC_p (i := w) (j := 4) (by omega)), eqO_i, decide_eq_true h4, ninO_dic L.A, hg, Option.isSome, e1, opI0_i, L.B, ep, hS1, e2, decide_eq_true h1', List.length_map, hrl, happ, if_pos h1]
    · have h1' : ¬ c - 1 = 0 := by omega
      simp only [↓ap_bind, ↓ap_bindS, ↓ap_seqM, ↓ap_skipM, ↓ap_un, ↓ap_bin, ↓ap_slot, ↓ap_cst, ↓ap_andM, ↓ap_orM, ↓ap_notM, ↓ap_iteM, ↓ap_argsN, ↓ap_argsC, ↓ap_tupM, ↓ap_lstM, ↓ap_escM, ↓ap_appA, ↓ap_callM, ↓ap_exprM, ↓ap_retM, ↓ap_retN, ↓ap_ifM, ↓ap_setM, ↓ap_asgM, ↓ap_parM, ↓ap_par3M, ↓ap_putM, ↓ap_putOwnM, ↓ap_putFldM, ↓ap_methM, ↓ap_lmM, ↓ap_appendOwnM, ↓ap_dpopM, ↓ap_dpop2M, ↓ap_chainM, ↓ap_isiM, ↓ap_sliceM, ↓ap_bdN, ↓ap_bdA, ↓ap_lam, startE, List.map_cons, List.map_nil, List.length_cons, List.length_nil, List.replicate, List.cons_append, List.nil_append, List.append_nil, List.set_cons_zero, List.set_cons_succ, List.getElem?_cons_zero, List.getElem?_cons_succ, T.own, Bool.false_and, Bool.true_and, Bool.not_true, Bool.not_false, Bool.and_false, Bool.and_true, reduceIte, Bool.false_eq_true, escs, esc, tgName, tgTup, tgEach, Nat.zero_add, Nat.reduceAdd, Nat.reduceSub, Nat.reduceLeDiff, Nat.reduceLT, Nat.zero_lt_succ, true_and, Nat.reduceEqDiff, line, ap_putM, intF_i, opI_i (modC_p (i := w) (j := 4) (by omega)), eqO_i, decide_eq_true h4, ninO_dic L.A, hg, Option.isSome, e1, opI0_i, L.B, ep, hS1, e2, decide_eq_false h1', List.length_map, hrl, happ, if_neg h1]
  · unfold up
    rw [← hcn]
    by_cases h : p = w
    · subst h; simp [hq]
    · simp only [h, if_false]; exact L.m_ p
def LoopLD (a b n : Nat) (ps qs : List Int) (sh : Int → Str) (fl : Int → List Int) (rf rg : Int → Nat) (v2 v4 : Option T) (rest pre : List Int) (S : Sto) (m : Mp) (row : List Int) (v : Option T) : Prop :=
  ∃ S' w6 br m' row' cn', fb m row rest = (br, m', row') ∧ forL (objG n) (tgName 6) innerLD rest.length pre.length [some (.im (.ref a)), some (.im (.ref b)), v2, some (.vl (row.map D.int)), v4, some (.im (.ref n)), v] S = brL br [some (.im (.ref a)), some (.im (.ref b)), v2, some (.vl (row'.map D.int)), v4, some (.im (.ref n)), w6] S' ∧ Lst S' a b ps qs cn' m' sh fl rf rg ∧ Kx b b S S'
theorem line_loop {a b n : Nat} {ps qs sh fl rf rg} {v2 v4 : Option T} {all : List Int} : ∀ (rest pre : List Int) (S : Sto) (m : Mp) (row : List Int) (v : Option T) (cn : Int → Int), all = pre ++ rest → S[n]? = some (.lst (all.map D.int)) → Lst S a b ps qs cn m sh fl rf rg → row.length + rest.length < 90000 →
    LoopLD a b n ps qs sh fl rf rg v2 v4 rest pre S m row v
  | [], pre, S, m, row, v, cn, e, hn, L, hl => by
    rw [List.append_nil] at e
    subst e
    refine ⟨S, v, none, m, row, cn, rfl, ?_, L, .refl⟩
    have := forL_obj_end (tgt := tgName 6) (body := innerLD) (ρ := [some (.im (.ref a)), some (.im (.ref b)), v2, some (.vl (row.map D.int)), v4, some (.im (.ref n)), v]) hn
    rw [List.length_map] at this
    exact this
  | w :: rest, pre, S, m, row, v, cn, e, hn, L, hl => by
    simp only [List.length_cons] at hl
    have hn2 := hn
    rw [e, List.map_append, List.map_cons] at hn2
    have hnb : n ≠ b := fun h => by rw [h, L.B] at hn; cases hn
    have stepE : ∀ {m1 row1 S1 cn1}, Kx b b S S1 → Lst S1 a b ps qs cn1 m1 sh fl rf rg → row1.length ≤ row.length + 1 → fb m row (w :: rest) = fb m1 row1 rest → innerLD [some (.im (.ref a)), some (.im (.ref b)), v2, some (.vl (row.map D.int)), v4, some (.im (.ref n)), some (.im (.int w))] S = .ok (.nx, [some (.im (.ref a)), some (.im (.ref b)), v2, some (.vl (row1.map D.int)), v4, some (.im (.ref n)), some (.im (.int w))]) S1 → LoopLD a b n ps qs sh fl rf rg v2 v4 (w :: rest) pre S m row v := fun {m1 row1 S1 cn1} k1 L1 hr ef eb => by
      have key := forL_obj_step (tgt := tgName 6) (ρ1 := [some (.im (.ref a)), some (.im (.ref b)), v2, some (.vl (row.map D.int)), v4, some (.im (.ref n)), some (.im (.int w))]) (ρ := [some (.im (.ref a)), some (.im (.ref b)), v2, some (.vl (row.map D.int)), v4, some (.im (.ref n)), v]) hn2 rfl eb
      obtain ⟨S', w6, br, m', row', cn', e1, e2, L', k'⟩ := line_loop (n := n) (v2 := v2) (v4 := v4) rest (pre ++ [w]) S1 m1 row1 (some (.im (.int w))) cn1 (by rw [e]; simp) (k1 _ _ hnb hnb hn) L1 (by omega)
      refine ⟨S', w6, br, m', row', cn', by rw [ef]; exact e1, ?_, L', k1.trans k'⟩
      simp only [List.length_map, List.length_append, List.length_cons, List.length_nil, Nat.zero_add] at key e2
      rw [List.length_cons, key, e2]
    by_cases h4 : w % 4 = 0
    · cases hm : m w with
      | none =>
        refine ⟨S, some (.im (.int w)), some w, m, row, cn, by unfold fb; rw [if_pos h4, hm], ?_, L, .refl⟩
        have key := forL_obj_rt (tgt := tgName 6) (ρ1 := [some (.im (.ref a)), some (.im (.ref b)), v2, some (.vl (row.map D.int)), v4, some (.im (.ref n)), some (.im (.int w))]) (ρ := [some (.im (.ref a)), some (.im (.ref b)), v2, some (.vl (row.map D.int)), v4, some (.im (.ref n)), v]) hn2 rfl (inner_miss L h4 hm)
        simp only [List.length_map] at key
        rw [List.length_cons, key]
        rfl
      | some c =>
        obtain ⟨S1, cn1, e1, L1, k1⟩ := inner_some (v2 := v2) (v4 := v4) (v5 := some (.im (.ref n))) L h4 hm (row := row) (by omega)
        exact stepE k1 L1 (by split <;> simp) (by conv => lhs; unfold fb; rw [if_pos h4, hm]) e1
    · exact stepE .refl L (by omega) (by conv => lhs; unfold fb; rw [if_neg h4]) (inner_skip h4)
def endLD (a b : Nat) (ps : List Int) (sh : Int → Str) (fl : Int → List Int) (rf rg : Int → Nat) (S' : Sto) (t : D) : Out → Prop
  | .broken w => t = brokenT w
  | .freed fr m => t = freedT fr ∧ ∃ qs cn, Lst S' a b ps qs cn m sh fl rf rg
theorem drop_loop {a b : Nat} {ps sh fl rf rg} {v2 : Option T} (hfl : ∀ p ∈ ps, (fl p).length < 1000) : ∀ (k : Nat) (m : Mp) (fr q : List Int) (p : Int) (o : Out) (S : Sto) (n : Nat) (qs : List Int) (cn : Int → Int) (v6 : Option T) (K : Nat), go fl k m fr (p :: q) = some o → Inv m (p :: q) → Lst S a b ps qs cn m sh fl rf rg → S[n]? = some (.lst ((fl p).map D.int)) → fr.length + qs.length < 64 → k < K →
    ∃ S' ρ' t, whileM (cst (.bl true)) bodyLD K [some (.im (.ref a)), some (.im (.ref b)), v2, some (.vl ((fr ++ p :: q).map D.int)), some (.vl ((fr ++ [p]).map D.int)), some (.im (.ref n)), v6] S = .ok (.rt (.im t), ρ') S' ∧ endLD a b ps sh fl rf rg S' t o ∧ (∀ (i : Nat) (o : MO), i ≠ a → i ≠ b → S[i]? = some o → S'[i]? = some o)
  | 0, m, fr, q, p, o, S, n, qs, cn, v6, K, e, i, L, hn, hl, hK => by cases e
  | k + 1, m, fr, q, p, o, S, n, qs, cn, v6, 0, e, i, L, hn, hl, hK => by omega
  | k + 1, m, fr, q, p, o, S, n, qs, cn, v6, K + 1, e, i, L, hn, hl, hK => by
    obtain ⟨c, hc, _⟩ := i.2 p (by simp)
    have hin : ∀ x ∈ p :: q, x ∈ qs := fun x hx => by
      obtain ⟨c', h', _⟩ := i.2 x hx
      rw [L.m_] at h'
      by_cases h : x ∈ qs
      · exact h
      · rw [if_neg h] at h'; cases h'
    have hpl := nodup_len i.1 hin
    have hpq := hin p (by simp)
    have hfp := hfl p (L.sub p hpq)
    have hnb : n ≠ b := fun h => by rw [h, L.B] at hn; cases hn
    obtain ⟨S1, w6, br, m', row', cn1, ef, e1, L1, k1⟩ := line_loop (v2 := v2) (v4 := some (.vl ((fr ++ [p]).map D.int))) (fl p) [] S m (fr ++ p :: q) v6 cn rfl hn L (by simp at hpl ⊢; omega)
    rw [fb_pre] at ef
    generalize eg : fb m (p :: q) (fl p) = X at ef
    obtain ⟨br1, m1, l1⟩ := X
    simp only [Prod.mk.injEq] at ef
    obtain ⟨rfl, rfl, rfl⟩ := ef
    obtain ⟨q', rfl, i'⟩ := i.step eg
    have eF : DL.forM (seqS (slot false 5)) (tgName 6) innerLD [some (.im (.ref a)), some (.im (.ref b)), v2, some (.vl ((fr ++ p :: q).map D.int)), some (.vl ((fr ++ [p]).map D.int)), some (.im (.ref n)), v6] S = brL br1 [some (.im (.ref a)), some (.im (.ref b)), v2, some (.vl ((fr ++ p :: q').map D.int)), some (.vl ((fr ++ [p]).map D.int)), some (.im (.ref n)), w6] S1 := by
      have es : seqS (slot false 5) [some (.im (.ref a)), some (.im (.ref b)), v2, some (.vl ((fr ++ p :: q).map D.int)), some (.vl ((fr ++ [p]).map D.int)), some (.im (.ref n)), v6] S = .ok (objG n, (fl p).length) S := by
        simp only [ap_seqS, ↓ap_bind, ↓ap_bindS, ↓ap_seqM, ↓ap_skipM, ↓ap_un, ↓ap_bin, ↓ap_slot, ↓ap_cst, ↓ap_andM, ↓ap_orM, ↓ap_notM, ↓ap_iteM, ↓ap_argsN, ↓ap_argsC, ↓ap_tupM, ↓ap_lstM, ↓ap_escM, ↓ap_appA, ↓ap_callM, ↓ap_exprM, ↓ap_retM, ↓ap_retN, ↓ap_ifM, ↓ap_setM, ↓ap_asgM, ↓ap_parM, ↓ap_par3M, ↓ap_putM, ↓ap_putOwnM, ↓ap_putFldM, ↓ap_methM, ↓ap_lmM, ↓ap_appendOwnM, ↓ap_dpopM, ↓ap_dpop2M, ↓ap_chainM, ↓ap_isiM, ↓ap_sliceM, ↓ap_bdN, ↓ap_bdA, ↓ap_lam, startE, List.map_cons, List.map_nil, List.length_cons, List.length_nil, List.replicate, List.cons_append, List.nil_append, List.append_nil, List.set_cons_zero, List.set_cons_succ, List.getElem?_cons_zero, List.getElem?_cons_succ, T.own, Bool.false_and, Bool.true_and, Bool.not_true, Bool.not_false, Bool.and_false, Bool.and_true, reduceIte, Bool.false_eq_true, escs, esc, tgName, tgTup, tgEach, Nat.zero_add, Nat.reduceAdd, Nat.reduceSub, Nat.reduceLeDiff, Nat.reduceLT, Nat.zero_lt_succ, true_and, Nat.reduceEqDiff, line, walkOf, hn, List.length_map]
      rw [forM_ref es]
      exact e1
    have econd : cst (.bl true) [some (.im (.ref a)), some (.im (.ref b)), v2, some (.vl ((fr ++ p :: q).map D.int)), some (.vl ((fr ++ [p]).map D.int)), some (.im (.ref n)), v6] S = .ok (.im (.bl true)) S := rfl
    cases br1 with
    | some w1 =>
      have : o = .broken w1 := by
        unfold go at e
        rw [eg] at e
        cases e
        rfl
      subst this
      refine ⟨S1, [some (.im (.ref a)), some (.im (.ref b)), v2, some (.vl ((fr ++ p :: q').map D.int)), some (.vl ((fr ++ [p]).map D.int)), some (.im (.ref n)), w6], brokenT w1, ?_, rfl, fun i o h1 h2 h3 => k1 i o h2 h2 h3⟩
      rw [ap_while, econd]
      simp only [↓ap_bind, ↓ap_bindS, ↓ap_seqM, ↓ap_skipM, ↓ap_un, ↓ap_bin, ↓ap_slot, ↓ap_cst, ↓ap_andM, ↓ap_orM, ↓ap_notM, ↓ap_iteM, ↓ap_argsN, ↓ap_argsC, ↓ap_tupM, ↓ap_lstM, ↓ap_escM, ↓ap_appA, ↓ap_callM, ↓ap_exprM, ↓ap_retM, ↓ap_retN, ↓ap_ifM, ↓ap_setM, ↓ap_asgM, ↓ap_parM, ↓ap_par3M, ↓ap_putM, ↓ap_putOwnM, ↓ap_putFldM, ↓ap_methM, ↓ap_lmM, ↓ap_appendOwnM, ↓ap_dpopM, ↓ap_dpop2M, ↓ap_chainM, ↓ap_isiM, ↓ap_sliceM, ↓ap_bdN, ↓ap_bdA, ↓ap_lam, startE, List.map_cons, List.map_nil, List.length_cons, List.length_nil, List.replicate, List.cons_append, List.nil_append, List.append_nil, List.set_cons_zero, List.set_cons_succ, List.getElem?_cons_zero, List.getElem?_cons_succ, T.own, Bool.false_and, Bool.true_and, Bool.not_true, Bool.not_false, Bool.and_false, Bool.and_true, reduceIte, Bool.false_eq_true, escs, esc, tgName, tgTup, tgEach, Nat.zero_add, Nat.reduceAdd, Nat.reduceSub, Nat.reduceLeDiff, Nat.reduceLT, Nat.zero_lt_succ, true_and, Nat.reduceEqDiff, line, eF, brL]
    | none =>
      have e2 : go fl k (up m1 p none) (fr ++ [p]) q' = some o := by
        unfold go at e
        rw [eg] at e
        exact e
      have hgA : getK (cellKV qs rf) (.inl p) = some (.ref (rf p)) := by unfold cellKV; rw [getK_map, if_pos hpq]
      have hab : a ≠ b := fun e => by
        have h1 := L1.A
        rw [e, L1.B] at h1
        have h2 : cntKV ps cn1 = cellKV qs rf := by injection h1 with h1; injection h1
        have : getK (cntKV ps cn1) (.inl p) = some (.int (cn1 p)) := by unfold cntKV; rw [getK_map, if_pos (L.sub p hpq)]
        rw [h2, hgA] at this
        cases this
      have hdrop : dropD (cellKV qs rf) (.inl p) = cellKV (qs.filter fun x => decide (x ≠ p)) rf := by
        unfold dropD cellKV
        rw [List.filter_map]
        congr 1
        apply List.filter_congr
        intro x _
        simp
      generalize hS2 : S1.set a (.dic (cellKV (qs.filter fun x => decide (x ≠ p)) rf)) = S2
      have L2 : Lst S2 a b ps (qs.filter fun x => decide (x ≠ p)) cn1 (up m1 p none) sh fl rf rg := by
        refine ⟨by rw [← hS2]; exact get_same L1.A, by rw [← hS2, get_ne hab, L1.B], fun x => ?_, fun x hx => L1.sub x (List.mem_filter.mp hx).1, L1.nd, L1.ndq.filter _, L1.len, by rw [← hS2]; exact L1.r.set fun ds h => by rw [L1.A] at h; cases h⟩
        unfold up
        by_cases h : x = p
        · simp [h]
        · rw [if_neg h, L1.m_]
          simp [List.mem_filter, h]
      have k2 : ∀ (i : Nat) (o : MO), i ≠ a → i ≠ b → S[i]? = some o → S2[i]? = some o := fun i o h1 h2 h3 => by rw [← hS2, get_ne (Ne.symm h1)]; exact k1 i o h2 h2 h3
      have hdic : isDic S1 (.im (.ref a)) = true := by unfold isDic; simp only [L1.A]
      have hlq : (qs.filter fun x => decide (x ≠ p)).length + 1 = qs.length := by
        have : qs.filter (fun x => decide (x ≠ p)) = qs.erase p := by
          rw [L.ndq.erase_eq_filter]
          congr 1
          funext y
          by_cases h : y = p <;> simp [h]
        rw [this, List.length_erase_of_mem hpq]
        have := List.length_pos_of_mem hpq
        omega
      have ene : ∀ S, neO (.vl ((fr ++ [p]).map D.int)) (.vl []) S = .ok (.im (.bl true)) S := fun S => by
        rw [neO_vl]
        have : (fr ++ [p]).isEmpty = false := by cases fr <;> rfl
        rw [this]
        rfl
      have eix : ∀ S, ixO (.vl ((fr ++ [p]).map D.int)) (.im (.int (-1))) S = .ok (.im (.int p)) S := fun S => by
        rw [ix_vl, List.map_append]
        show (match atI (fr.map D.int ++ [D.int p]) (-1) with | some d => _ | none => _) = _
        rw [atI_last]
      have elen : ∀ S, lenF [.vl ((fr ++ [p]).map D.int)] S = .ok (.im (.int ((fr ++ [p]).length : Nat))) S := fun S => by rw [lenF_vl, List.length_map]
      have elen2 : ∀ S, lenF [.vl ((fr ++ p :: q').map D.int)] S = .ok (.im (.int ((fr ++ p :: q').length : Nat))) S := fun S => by rw [lenF_vl, List.length_map]
      cases q' with
      | nil =>
        have hk : ∃ k', k = k' + 1 := by cases k with
          | zero => cases e2
          | succ k' => exact ⟨k', rfl⟩
        obtain ⟨k', rfl⟩ := hk
        have : o = .freed (fr ++ [p]) (up m1 p none) := by cases e2; rfl
        subst this
        refine ⟨S2, [some (.im (.ref a)), some (.im (.ref b)), v2, some (.vl ((fr ++ [p]).map D.int)), some (.vl ((fr ++ [p]).map D.int)), some (.im (.ref n)), w6], freedT (fr ++ [p]), ?_, ⟨rfl, _, _, L2⟩, k2⟩
        have elen3 : (((fr ++ [p]).length : Nat) : Int) = (((fr ++ [p]).length : Nat) : Int) := rfl
        have etup : tupleF [.vl ((fr ++ [p]).map D.int)] S2 = .ok (.im (.tup ((fr ++ [p]).map D.int))) S2 := rfl
        rw [ap_while, econd]
        simp only [↓ap_bind, ↓ap_bindS, ↓ap_seqM, ↓ap_skipM, ↓ap_un, ↓ap_bin, ↓ap_slot, ↓ap_cst, ↓ap_andM, ↓ap_orM, ↓ap_notM, ↓ap_iteM, ↓ap_argsN, ↓ap_argsC, ↓ap_tupM, ↓ap_lstM, ↓ap_escM, ↓ap_appA, ↓ap_callM, ↓ap_exprM, ↓ap_retM, ↓ap_retN, ↓ap_ifM, ↓ap_setM, ↓ap_asgM, ↓ap_parM, ↓ap_par3M, ↓ap_putM, ↓ap_putOwnM, ↓ap_putFldM, ↓ap_methM, ↓ap_lmM, ↓ap_appendOwnM, ↓ap_dpopM, ↓ap_dpop2M, ↓ap_chainM, ↓ap_isiM, ↓ap_sliceM, ↓ap_bdN, ↓ap_bdA, ↓ap_lam, startE, List.map_cons, List.map_nil, List.length_cons, List.length_nil, List.replicate, List.cons_append, List.nil_append, List.append_nil, List.set_cons_zero, List.set_cons_succ, List.getElem?_cons_zero, List.getElem?_cons_succ, T.own, Bool.false_and, Bool.true_and, Bool.not_true, Bool.not_false, Bool.and_false, Bool.and_true, reduceIte, Bool.false_eq_true, escs, esc, tgName, tgTup, tgEach, Nat.zero_add, Nat.reduceAdd, Nat.reduceSub, Nat.reduceLeDiff, Nat.reduceLT, Nat.zero_lt_succ, true_and, Nat.reduceEqDiff, line, eF, brL, ene, negO_i, eix, hdic, L1.A, keyD, hgA, hdrop, hS2, elen, elen2, eqO_i, decide_true, etup, freedT]
      | cons p2 q2 =>
        have hlne : ¬ (((fr ++ [p]).length : Nat) : Int) = (((fr ++ p :: p2 :: q2).length : Nat) : Int) := by simp; omega
        have hp2 : p2 ∈ qs.filter fun x => decide (x ≠ p) := by
          obtain ⟨c', h', _⟩ := i'.2 p2 (by simp)
          rw [L2.m_] at h'
          by_cases h : p2 ∈ qs.filter fun x => decide (x ≠ p)
          · exact h
          · rw [if_neg h] at h'; cases h'
        have hrow : (((fr ++ p :: p2 :: q2).map D.int))[(fr ++ [p]).length]? = some (.int p2) := by simp
        have ex1 : ixO (.vl ((fr ++ p :: p2 :: q2).map D.int)) (.im (.int ((fr ++ [p]).length : Nat))) S2 = .ok (.im (.int p2)) S2 := ixO_vl hrow
        have hgA2 : getK (cellKV (qs.filter fun x => decide (x ≠ p)) rf) (.inl p2) = some (.ref (rf p2)) := by unfold cellKV; rw [getK_map, if_pos hp2]
        have ex2 : ixO (.im (.ref a)) (.im (.int p2)) S2 = .ok (.im (.ref (rf p2))) S2 := ixO_dic (.inl L2.A) rfl hgA2
        have ex3 : ixO (.im (.ref (rf p2))) (.im (.int 1)) S2 = .ok (.im (.ref (rg p2))) S2 := ixO_lst (i := 1) (L2.r.rcd p2 (L2.sub p2 hp2)) rfl
        have ex4 : listF [.im (.ref (rg p2))] S2 = .ok (.vl ((fl p2).map D.int)) S2 := listF_ref (L2.r.fld p2 (L2.sub p2 hp2))
        have happ : (fr ++ [p]).map D.int ++ [D.int p2] = ((fr ++ [p]) ++ [p2]).map D.int := by simp
        have eix2 : ∀ S, ixO (.vl (((fr ++ [p]) ++ [p2]).map D.int)) (.im (.int (-1))) S = .ok (.im (.int p2)) S := fun S => by
          rw [ix_vl, List.map_append]
          show (match atI ((fr ++ [p]).map D.int ++ [D.int p2]) (-1) with | some d => _ | none => _) = _
          rw [atI_last]
        have hfrl : (((fr ++ [p]).map D.int).length < 16777216) = True := by simp; omega
        have eb : bodyLD [some (.im (.ref a)), some (.im (.ref b)), v2, some (.vl ((fr ++ p :: q).map D.int)), some (.vl ((fr ++ [p]).map D.int)), some (.im (.ref n)), v6] S = .ok (.nx, [some (.im (.ref a)), some (.im (.ref b)), v2, some (.vl ((fr ++ p :: p2 :: q2).map D.int)), some (.vl (((fr ++ [p]) ++ [p2]).map D.int)), some (.im (.ref S2.length)), w6]) (S2 ++ [.lst ((fl p2).map D.int)]) := by
          simp only [↓ap_bind, ↓ap_bindS, ↓ap_seqM, ↓ap_skipM, ↓ap_un, ↓ap_bin, ↓ap_slot, ↓ap_cst, ↓ap_andM, ↓ap_orM, ↓ap_notM, ↓ap_iteM, ↓ap_argsN, ↓ap_argsC, ↓ap_tupM, ↓ap_lstM, ↓ap_escM, ↓ap_appA, ↓ap_callM, ↓ap_exprM, ↓ap_retM, ↓ap_retN, ↓ap_ifM, ↓ap_setM, ↓ap_asgM, ↓ap_parM, ↓ap_par3M, ↓ap_putM, ↓ap_putOwnM, ↓ap_putFldM, ↓ap_methM, ↓ap_lmM, ↓ap_appendOwnM, ↓ap_dpopM, ↓ap_dpop2M, ↓ap_chainM, ↓ap_isiM, ↓ap_sliceM, ↓ap_bdN, ↓ap_bdA, ↓ap_lam, startE, List.map_cons, List.map_nil, List.length_cons, List.length_nil, List.replicate, List.cons_append, List.nil_append, List.append_nil, List.set_cons_zero, List.set_cons_succ, List.getElem?_cons_zero, List.getElem?_cons_succ, T.own, Bool.false_and, Bool.true_and, Bool.not_true, Bool.not_false, Bool.and_false, Bool.and_true, reduceIte, Bool.false_eq_true, escs, esc, tgName, tgTup, tgEach, Nat.zero_add, Nat.reduceAdd, Nat.reduceSub, Nat.reduceLeDiff, Nat.reduceLT, Nat.zero_lt_succ, true_and, Nat.reduceEqDiff, line, eF, brL, ene, negO_i, eix, hdic, L1.A, keyD, hgA, hdrop, hS2, elen, elen2, eqO_i, decide_eq_false hlne, ap_appendOwnM, ex1, hfrl, happ, eix2, ex2, ex3, ex4]
        have L3 : Lst (S2 ++ [.lst ((fl p2).map D.int)]) a b ps (qs.filter fun x => decide (x ≠ p)) cn1 (up m1 p none) sh fl rf rg := ⟨get_app L2.A, get_app L2.B, L2.m_, L2.sub, L2.nd, L2.ndq, L2.len, L2.r.kp .app⟩
        obtain ⟨S', ρ', t, e3, e4, k3⟩ := drop_loop (v2 := v2) hfl k (up m1 p none) (fr ++ [p]) q2 p2 o (S2 ++ [.lst ((fl p2).map D.int)]) S2.length _ cn1 w6 K e2 i' L3 get_end (by simp only [List.length_append, List.length_cons, List.length_nil]; omega) (by omega)
        refine ⟨S', ρ', t, ?_, e4, fun i o h1 h2 h3 => k3 i o h1 h2 (get_app (k2 i o h1 h2 h3))⟩
        rw [ap_while, econd]
        simp only
        rw [eb]
        simp only
        have : (fr ++ p :: p2 :: q2) = (fr ++ [p]) ++ p2 :: q2 := by simp
        rw [this]
        exact e3
/-- the law's own giving back -/
theorem law_drop_ok {a b : Nat} {ps sh fl rf rg} {S : Sto} {cn : Int → Int} {m : Mp} {w : Int} {k : Nat} {o : Out} (hfl : ∀ p ∈ ps, (fl p).length < 1000) (L : Lst S a b ps ps cn m sh fl rf rg) (e : drop fl k m w = some o) (hk : k < 99999) :
    ∃ S' t, F__law_drop [.im (.ref a), .im (.ref b), .im (.int w)] S = .ok (.im t) S' ∧ endLD a b ps sh fl rf rg S' t o ∧ (∀ (i : Nat) (o : MO), i ≠ a → i ≠ b → S[i]? = some o → S'[i]? = some o) := by
  have L0 : Lst (S ++ [.lst [.int w]]) a b ps ps cn m sh fl rf rg := ⟨get_app L.A, get_app L.B, L.m_, L.sub, L.nd, L.ndq, L.len, L.r.kp .app⟩
  have hn : (S ++ [MO.lst [D.int w]])[S.length]? = some (.lst ([w].map D.int)) := get_end
  obtain ⟨S1, w6, br, m1, row, cn1, ef, e1, L1, k1⟩ := line_loop (v2 := some (.im (.int w))) (v4 := some (.vl [])) [w] [] (S ++ [.lst [.int w]]) m [] none cn rfl hn L0 (by simp)
  have eF : DL.forM (seqS (slot false 5)) (tgName 6) innerLD [some (.im (.ref a)), some (.im (.ref b)), some (.im (.int w)), some (.vl []), some (.vl []), some (.im (.ref S.length)), none] (S ++ [.lst [.int w]]) = brL br [some (.im (.ref a)), some (.im (.ref b)), some (.im (.int w)), some (.vl (row.map D.int)), some (.vl []), some (.im (.ref S.length)), w6] S1 := by
    have es : seqS (slot false 5) [some (.im (.ref a)), some (.im (.ref b)), some (.im (.int w)), some (.vl []), some (.vl []), some (.im (.ref S.length)), none] (S ++ [.lst [.int w]]) = .ok (objG S.length, [w].length) (S ++ [.lst [.int w]]) := by
      simp only [ap_seqS, ↓ap_bind, ↓ap_bindS, ↓ap_seqM, ↓ap_skipM, ↓ap_un, ↓ap_bin, ↓ap_slot, ↓ap_cst, ↓ap_andM, ↓ap_orM, ↓ap_notM, ↓ap_iteM, ↓ap_argsN, ↓ap_argsC, ↓ap_tupM, ↓ap_lstM, ↓ap_escM, ↓ap_appA, ↓ap_callM, ↓ap_exprM, ↓ap_retM, ↓ap_retN, ↓ap_ifM, ↓ap_setM, ↓ap_asgM, ↓ap_parM, ↓ap_par3M, ↓ap_putM, ↓ap_putOwnM, ↓ap_putFldM, ↓ap_methM, ↓ap_lmM, ↓ap_appendOwnM, ↓ap_dpopM, ↓ap_dpop2M, ↓ap_chainM, ↓ap_isiM, ↓ap_sliceM, ↓ap_bdN, ↓ap_bdA, ↓ap_lam, startE, List.map_cons, List.map_nil, List.length_cons, List.length_nil, List.replicate, List.cons_append, List.nil_append, List.append_nil, List.set_cons_zero, List.set_cons_succ, List.getElem?_cons_zero, List.getElem?_cons_succ, T.own, Bool.false_and, Bool.true_and, Bool.not_true, Bool.not_false, Bool.and_false, Bool.and_true, reduceIte, Bool.false_eq_true, escs, esc, tgName, tgTup, tgEach, Nat.zero_add, Nat.reduceAdd, Nat.reduceSub, Nat.reduceLeDiff, Nat.reduceLT, Nat.zero_lt_succ, true_and, Nat.reduceEqDiff, line, walkOf, get_end]
    rw [forM_ref es]
    exact e1
  have kp : ∀ (i : Nat) (o : MO), i ≠ a → i ≠ b → S[i]? = some o → S1[i]? = some o := fun i o h1 h2 h3 => k1 i o h2 h2 (get_app h3)
  have econd : cst (.bl true) [some (.im (.ref a)), some (.im (.ref b)), some (.im (.int w)), some (.vl []), some (.vl []), some (.im (.ref S.length)), none] (S ++ [.lst [.int w]]) = .ok (.im (.bl true)) (S ++ [.lst [.int w]]) := rfl
  have ene : ∀ S, neO (.vl []) (.vl []) S = .ok (.im (.bl false)) S := fun S => neO_vl (l := [])
  have elen : ∀ S, lenF [.vl []] S = .ok (.im (.int 0)) S := fun S => rfl
  have elen2 : ∀ S, lenF [.vl (row.map D.int)] S = .ok (.im (.int (row.length : Nat))) S := fun S => by rw [lenF_vl, List.length_map]
  unfold drop at e
  rw [ef] at e
  suffices h : ∃ S' ρ' t, whileM (cst (.bl true)) bodyLD 100000 [some (.im (.ref a)), some (.im (.ref b)), some (.im (.int w)), some (.vl []), some (.vl []), some (.im (.ref S.length)), none] (S ++ [.lst [.int w]]) = .ok (.rt (.im t), ρ') S' ∧ endLD a b ps sh fl rf rg S' t o ∧ (∀ (i : Nat) (o : MO), i ≠ a → i ≠ b → S[i]? = some o → S'[i]? = some o) by
    obtain ⟨S', ρ', t, h1, h2, h3⟩ := h
    refine ⟨S', t, ?_, h2, h3⟩
    rw [F__law_drop, ap_runF, m__law_drop]
    simp only [↓ap_bind, ↓ap_bindS, ↓ap_seqM, ↓ap_skipM, ↓ap_un, ↓ap_bin, ↓ap_slot, ↓ap_cst, ↓ap_andM, ↓ap_orM, ↓ap_notM, ↓ap_iteM, ↓ap_argsN, ↓ap_argsC, ↓ap_tupM, ↓ap_lstM, ↓ap_escM, ↓ap_appA, ↓ap_callM, ↓ap_exprM, ↓ap_retM, ↓ap_retN, ↓ap_ifM, ↓ap_setM, ↓ap_asgM, ↓ap_parM, ↓ap_par3M, ↓ap_putM, ↓ap_putOwnM, ↓ap_putFldM, ↓ap_methM, ↓ap_lmM, ↓ap_appendOwnM, ↓ap_dpopM, ↓ap_dpop2M, ↓ap_chainM, ↓ap_isiM, ↓ap_sliceM, ↓ap_bdN, ↓ap_bdA, ↓ap_lam, startE, List.map_cons, List.map_nil, List.length_cons, List.length_nil, List.replicate, List.cons_append, List.nil_append, List.append_nil, List.set_cons_zero, List.set_cons_succ, List.getElem?_cons_zero, List.getElem?_cons_succ, T.own, Bool.false_and, Bool.true_and, Bool.not_true, Bool.not_false, Bool.and_false, Bool.and_true, reduceIte, Bool.false_eq_true, escs, esc, tgName, tgTup, tgEach, Nat.zero_add, Nat.reduceAdd, Nat.reduceSub, Nat.reduceLeDiff, Nat.reduceLT, Nat.zero_lt_succ, true_and, Nat.reduceEqDiff, line, h1]
  cases br with
  | some w1 =>
    cases e
    refine ⟨S1, [some (.im (.ref a)), some (.im (.ref b)), some (.im (.int w)), some (.vl (row.map D.int)), some (.vl []), some (.im (.ref S.length)), w6], brokenT w1, ?_, rfl, kp⟩
    rw [ap_while (k := 99999), econd]
    simp only [↓ap_bind, ↓ap_bindS, ↓ap_seqM, ↓ap_skipM, ↓ap_un, ↓ap_bin, ↓ap_slot, ↓ap_cst, ↓ap_andM, ↓ap_orM, ↓ap_notM, ↓ap_iteM, ↓ap_argsN, ↓ap_argsC, ↓ap_tupM, ↓ap_lstM, ↓ap_escM, ↓ap_appA, ↓ap_callM, ↓ap_exprM, ↓ap_retM, ↓ap_retN, ↓ap_ifM, ↓ap_setM, ↓ap_asgM, ↓ap_parM, ↓ap_par3M, ↓ap_putM, ↓ap_putOwnM, ↓ap_putFldM, ↓ap_methM, ↓ap_lmM, ↓ap_appendOwnM, ↓ap_dpopM, ↓ap_dpop2M, ↓ap_chainM, ↓ap_isiM, ↓ap_sliceM, ↓ap_bdN, ↓ap_bdA, ↓ap_lam, startE, List.map_cons, List.map_nil, List.length_cons, List.length_nil, List.replicate, List.cons_append, List.nil_append, List.append_nil, List.set_cons_zero, List.set_cons_succ, List.getElem?_cons_zero, List.getElem?_cons_succ, T.own, Bool.false_and, Bool.true_and, Bool.not_true, Bool.not_false, Bool.and_false, Bool.and_true, reduceIte, Bool.false_eq_true, escs, esc, tgName, tgTup, tgEach, Nat.zero_add, Nat.reduceAdd, Nat.reduceSub, Nat.reduceLeDiff, Nat.reduceLT, Nat.zero_lt_succ, true_and, Nat.reduceEqDiff, line, eF, brL]
  | none =>
    have i0 : Inv m [] := ⟨List.nodup_nil, fun p hp => by cases hp⟩
    have i1 := i0.fb ef
    cases row with
    | nil =>
      have hk : ∃ k', k = k' + 1 := by cases k with
        | zero => cases e
        | succ k' => exact ⟨k', rfl⟩
      obtain ⟨k', rfl⟩ := hk
      cases e
      refine ⟨S1, [some (.im (.ref a)), some (.im (.ref b)), some (.im (.int w)), some (.vl []), some (.vl []), some (.im (.ref S.length)), w6], freedT [], ?_, ⟨rfl, _, _, L1⟩, kp⟩
      have etup : tupleF [.vl []] S1 = .ok (.im (.tup [])) S1 := rfl
      have e0 : ((0 : Int) = (([] : List Int).length : Nat)) := rfl
      rw [ap_while (k := 99999), econd]
      simp only [↓ap_bind, ↓ap_bindS, ↓ap_seqM, ↓ap_skipM, ↓ap_un, ↓ap_bin, ↓ap_slot, ↓ap_cst, ↓ap_andM, ↓ap_orM, ↓ap_notM, ↓ap_iteM, ↓ap_argsN, ↓ap_argsC, ↓ap_tupM, ↓ap_lstM, ↓ap_escM, ↓ap_appA, ↓ap_callM, ↓ap_exprM, ↓ap_retM, ↓ap_retN, ↓ap_ifM, ↓ap_setM, ↓ap_asgM, ↓ap_parM, ↓ap_par3M, ↓ap_putM, ↓ap_putOwnM, ↓ap_putFldM, ↓ap_methM, ↓ap_lmM, ↓ap_appendOwnM, ↓ap_dpopM, ↓ap_dpop2M, ↓ap_chainM, ↓ap_isiM, ↓ap_sliceM, ↓ap_bdN, ↓ap_bdA, ↓ap_lam, startE, List.map_cons, List.map_nil, List.length_cons, List.length_nil, List.replicate, List.cons_append, List.nil_append, List.append_nil, List.set_cons_zero, List.set_cons_succ, List.getElem?_cons_zero, List.getElem?_cons_succ, T.own, Bool.false_and, Bool.true_and, Bool.not_true, Bool.not_false, Bool.and_false, Bool.and_true, reduceIte, Bool.false_eq_true, escs, esc, tgName, tgTup, tgEach, Nat.zero_add, Nat.reduceAdd, Nat.reduceSub, Nat.reduceLeDiff, Nat.reduceLT, Nat.zero_lt_succ, true_and, Nat.reduceEqDiff, line, eF, brL, ene, elen, eqO_i, decide_true, etup, freedT]
    | cons p q =>
      have hpq : p ∈ ps := by
        obtain ⟨c', h', _⟩ := i1.2 p (by simp)
        rw [L1.m_] at h'
        by_cases h : p ∈ ps
        · exact h
        · rw [if_neg h] at h'; cases h'
      have hlne : ¬ (0 : Int) = (((p :: q).length : Nat) : Int) := by simp; omega
      have ex1 : ixO (.vl ((p :: q).map D.int)) (.im (.int 0)) S1 = .ok (.im (.int p)) S1 := ixO_vl (i := 0) rfl
      have hgA : getK (cellKV ps rf) (.inl p) = some (.ref (rf p)) := by unfold cellKV; rw [getK_map, if_pos hpq]
      have ex2 : ixO (.im (.ref a)) (.im (.int p)) S1 = .ok (.im (.ref (rf p))) S1 := ixO_dic (.inl L1.A) rfl hgA
      have ex3 : ixO (.im (.ref (rf p))) (.im (.int 1)) S1 = .ok (.im (.ref (rg p))) S1 := ixO_lst (i := 1) (L1.r.rcd p hpq) rfl
      have ex4 : listF [.im (.ref (rg p))] S1 = .ok (.vl ((fl p).map D.int)) S1 := listF_ref (L1.r.fld p hpq)
      have eix2 : ∀ S, ixO (.vl [D.int p]) (.im (.int (-1))) S = .ok (.im (.int p)) S := fun S => rfl
      have eb : bodyLD [some (.im (.ref a)), some (.im (.ref b)), some (.im (.int w)), some (.vl []), some (.vl []), some (.im (.ref S.length)), none] (S ++ [.lst [.int w]]) = .ok (.nx, [some (.im (.ref a)), some (.im (.ref b)), some (.im (.int w)), some (.vl ((p :: q).map D.int)), some (.vl [D.int p]), some (.im (.ref S1.length)), w6]) (S1 ++ [.lst ((fl p).map D.int)]) := by
        generalize hR : (p :: q).map D.int = R at *
        generalize hN : (((p :: q).length : Nat) : Int) = N at *
        simp only [↓ap_bind, ↓ap_bindS, ↓ap_seqM, ↓ap_skipM, ↓ap_un, ↓ap_bin, ↓ap_slot, ↓ap_cst, ↓ap_andM, ↓ap_orM, ↓ap_notM, ↓ap_iteM, ↓ap_argsN, ↓ap_argsC, ↓ap_tupM, ↓ap_lstM, ↓ap_escM, ↓ap_appA, ↓ap_callM, ↓ap_exprM, ↓ap_retM, ↓ap_retN, ↓ap_ifM, ↓ap_setM, ↓ap_asgM, ↓ap_parM, ↓ap_par3M, ↓ap_putM, ↓ap_putOwnM, ↓ap_putFldM, ↓ap_methM, ↓ap_lmM, ↓ap_appendOwnM, ↓ap_dpopM, ↓ap_dpop2M, ↓ap_chainM, ↓ap_isiM, ↓ap_sliceM, ↓ap_bdN, ↓ap_bdA, ↓ap_lam, startE, List.map_cons, List.map_nil, List.length_cons, List.length_nil, List.replicate, List.cons_append, List.nil_append, List.append_nil, List.set_cons_zero, List.set_cons_succ, List.getElem?_cons_zero, List.getElem?_cons_succ, T.own, Bool.false_and, Bool.true_and, Bool.not_true, Bool.not_false, Bool.and_false, Bool.and_true, reduceIte, Bool.false_eq_true, escs, esc, tgName, tgTup, tgEach, Nat.zero_add, Nat.reduceAdd, Nat.reduceSub, Nat.reduceLeDiff, Nat.reduceLT, Nat.zero_lt_succ, true_and, Nat.reduceEqDiff, line, eF, brL, ene, elen, elen2, eqO_i, decide_eq_false hlne, ap_appendOwnM, ex1, negO_i, eix2, ex2, ex3, ex4]
      have L3 : Lst (S1 ++ [.lst ((fl p).map D.int)]) a b ps ps cn1 m1 sh fl rf rg := ⟨get_app L1.A, get_app L1.B, L1.m_, L1.sub, L1.nd, L1.ndq, L1.len, L1.r.kp .app⟩
      obtain ⟨S', ρ', t, e3, e4, k3⟩ := drop_loop (v2 := some (.im (.int w))) hfl k m1 [] q p o (S1 ++ [.lst ((fl p).map D.int)]) S1.length ps cn1 w6 99999 e i1 L3 get_end (by have := L.len; simp; omega) (by omega)
      refine ⟨S', ρ', t, ?_, e4, fun i o h1 h2 h3 => k3 i o h1 h2 (get_app (kp i o h1 h2 h3))⟩
      rw [ap_while (k := 99999), econd]
      simp only
      rw [eb]
      simp only
      exact e3
end K71

namespace K71
open PySem PySem.Spec DL Giv
open L2 (Key atI ixN)
theorem strOk_shapes : ∀ s ∈ shapesL, PyData.strOk s = true := by decide +kernel
theorem strOk_broken : PyData.strOk ("broken" : Str) = true := by decide +kernel
theorem strOk_freed : PyData.strOk ("freed" : Str) = true := by decide +kernel
theorem plD_ints {n : Nat} (l : List Int) : (l.map D.int).all (plD n) = true := by
  rw [List.all_map, List.all_eq_true]
  intro x _
  cases n <;> rfl
theorem plD_str {n : Nat} {s : Str} (h : PyData.strOk s = true) : plD n (.str s) = true := by cases n <;> exact h
theorem plD_int {n : Nat} {i : Int} : plD n (.int i) = true := by cases n <;> rfl
theorem plD_heap {ps : List Int} {c : Int → Int} {sh fl} (h : ∀ p ∈ ps, PyData.strOk (sh p) = true) : plD 3 (heapT ps c sh fl) = true := by
  show (ps.map fun p => cellD sh fl p (c p)).all (plD 2) = true
  rw [List.all_map, List.all_eq_true]
  intro p hp
  show ([D.int p, .int (c p), .str (sh p), .tup ((fl p).map D.int)]).all (plD 1) = true
  simp only [List.all_cons, List.all_nil, plD_int, plD_str (h p hp), Bool.and_true, Bool.true_and]
  exact plD_ints (n := 0) _
theorem plD_out {ps : List Int} {sh fl} {o : Out} (h : ∀ p ∈ ps, PyData.strOk (sh p) = true) : plD 4 (outD ps sh fl o) = true := by
  cases o with
  | broken w =>
    show ([D.str "broken", .int w]).all (plD 3) = true
    simp only [List.all_cons, List.all_nil, plD_int, plD_str strOk_broken, Bool.and_true]
  | freed fr m =>
    show ([D.str "freed", .tup (fr.map D.int), heapT (sortI (here ps m)) (fun p => (m p).getD 0) sh fl]).all (plD 3) = true
    have h1 : plD 3 (.tup (fr.map D.int)) = true := plD_ints (n := 2) _
    have h2 : plD 3 (heapT (sortI (here ps m)) (fun p => (m p).getD 0) sh fl) = true := plD_heap fun p hp => h p (by
      rw [mem_sortI] at hp
      exact (List.mem_filter.mp hp).1)
    simp only [List.all_cons, List.all_nil, h1, h2, plD_str strOk_freed, Bool.and_true]
theorem eqO_self {S : Sto} {d : D} {n : Nat} (h : plD n d = true) (hn : n ≤ 60) : DL.eqO (.im d) (.im d) S = .ok (.im (.bl true)) S := by
  unfold DL.eqO
  rw [eq_self h hn]
theorem eqT_str {S : Sto} {x y : Str} (hx : PyData.strOk x = true) (hy : PyData.strOk y = true) : eqT S (.im (.str x)) (.im (.str y)) = some (x == y) := by
  show eqvO (some (.str x)) (some (.str y)) = _
  unfold eqvO
  simp only
  rw [if_pos (by simp [PyData.canLay0, PyData.depth, hx, hy])]
  rfl
theorem eqO_broken {S : Sto} : DL.eqO (.im (.str "broken")) (.im (.str "broken")) S = .ok (.im (.bl true)) S := eqO_self (n := 0) strOk_broken (by omega)
theorem freed_ne : (("freed" : Str) == ("broken" : Str)) = false := by decide +kernel
theorem freed_eq : (("freed" : Str) == ("freed" : Str)) = true := by decide +kernel
theorem broken_ne : (("broken" : Str) == ("freed" : Str)) = false := by decide +kernel
theorem eqO_freed {S : Sto} : DL.eqO (.im (.str "freed")) (.im (.str "broken")) S = .ok (.im (.bl false)) S := by
  unfold DL.eqO
  rw [eqT_str strOk_freed strOk_broken, freed_ne]
theorem neO_freed {S : Sto} : neO (.im (.str "freed")) (.im (.str "freed")) S = .ok (.im (.bl false)) S := by
  unfold neO
  rw [eqT_str strOk_freed strOk_freed, freed_eq]
  rfl
theorem heapT_congr {ps : List Int} {c c' : Int → Int} {sh fl} (h : ∀ p ∈ ps, c p = c' p) : heapT ps c sh fl = heapT ps c' sh fl := by
  unfold heapT
  congr 1
  apply List.map_congr_left
  intro p hp
  rw [h p hp]
theorem right_ok {S : Sto} {c b : Nat} {ps : List Int} {sh fl rf rg} {cn : Int → Int} {w : Int} (hc : S[c]? = some (.dic (cellKV ps rf))) (hb : S[b]? = some (.dic (cntKV ps cn))) (r : Recs S ps sh fl rf rg) (nd : ps.Nodup) (hl : ps.length < 60) (f : Fit (sortI ps) cn sh fl) (hsh : ∀ p ∈ ps, sh p ∈ shapesL) (hfl : ∀ p ∈ ps, (fl p).length < 1000) (hw : -2147483648 ≤ w ∧ w ≤ 2147483647) :
    ∃ S', F__law_right [.im (.ref c), .im (.ref b), .im (.int w)] S = .ok (.im (.bl true)) S' ∧ Kp S S' := by
  have hg : ∀ p ∈ ps, getK (cntKV ps cn) (.inl p) = some (.int (cn p)) := fun p hp => by unfold cntKV; rw [getK_map, if_pos hp]
  have hgc : ∀ p ∈ ps, getK (cellKV ps rf) (.inl p) = some (.ref (rf p)) := fun p hp => by unfold cellKV; rw [getK_map, if_pos hp]
  have e1 := heap_ok r hc hb hg (by omega)
  generalize hm : (fun p => if p ∈ ps then some (cn p) else none : Mp) = m
  have hm2 : ∀ p, m p = if p ∈ ps then some (cn p) else none := fun p => by rw [← hm]
  obtain ⟨o, ho⟩ := drop_some (fl := fl) nd (k := 70) (m := m) (w := w) (fun p h => by
    rw [hm2] at h
    by_cases hp : p ∈ ps
    · exact hp
    · rw [if_neg hp] at h; cases h) (by omega)
  have ndS : (sortI ps).Nodup := (sortI_perm ps).nodup_iff.mpr nd
  obtain ⟨S1, e2, k1⟩ := freed_by_ok (S := S) f ndS (m := m) (fun p => by rw [hm2]; simp only [mem_sortI]) ho (by omega) hw
  have hc1 := k1 _ _ hc
  have hb1 := k1 _ _ hb
  have e3 : lockM 0 (lcM (dictS (slot true 0)) [7] (tgName 7) yesM (tupM (argsM [(slot false 7), (bin (slot true 0) (slot true 7) ixO)]))) [some (.im (.ref c)), some (.im (.ref b)), some (.im (.int w)), some (.im (outD (sortI ps) sh fl o)), none, none, none, none] S1 = .ok (.vl (ps.map fun p => .tup [.int p, .ref (rf p)])) S1 := by
    refine lock_lc (i := 0) rfl hc1 (by omega) fun p hp => ⟨_, rfl, ?_⟩
    have ex : ixO (.im (.ref c)) (.im (.int p)) (S1.set c (.fdic (ps.map fun p => ((Sum.inl p : Key), D.ref (rf p))))) = .ok (.im (.ref (rf p))) (S1.set c (.fdic (ps.map fun p => ((Sum.inl p : Key), D.ref (rf p))))) := ixO_dic (.inr (get_same hc1)) rfl (hgc p hp)
    simp only [↓ap_bind, ↓ap_bindS, ↓ap_seqM, ↓ap_skipM, ↓ap_un, ↓ap_bin, ↓ap_slot, ↓ap_cst, ↓ap_andM, ↓ap_orM, ↓ap_notM, ↓ap_iteM, ↓ap_argsN, ↓ap_argsC, ↓ap_tupM, ↓ap_lstM, ↓ap_escM, ↓ap_appA, ↓ap_callM, ↓ap_exprM, ↓ap_retM, ↓ap_retN, ↓ap_ifM, ↓ap_setM, ↓ap_asgM, ↓ap_parM, ↓ap_par3M, ↓ap_putM, ↓ap_putOwnM, ↓ap_putFldM, ↓ap_methM, ↓ap_lmM, ↓ap_appendOwnM, ↓ap_dpopM, ↓ap_dpop2M, ↓ap_chainM, ↓ap_isiM, ↓ap_sliceM, ↓ap_bdN, ↓ap_bdA, ↓ap_lam, startE, List.map_cons, List.map_nil, List.length_cons, List.length_nil, List.replicate, List.cons_append, List.nil_append, List.append_nil, List.set_cons_zero, List.set_cons_succ, List.getElem?_cons_zero, List.getElem?_cons_succ, T.own, Bool.false_and, Bool.true_and, Bool.not_true, Bool.not_false, Bool.and_false, Bool.and_true, reduceIte, Bool.false_eq_true, escs, esc, tgName, tgTup, tgEach, Nat.zero_add, Nat.reduceAdd, Nat.reduceSub, Nat.reduceLeDiff, Nat.reduceLT, Nat.zero_lt_succ, true_and, Nat.reduceEqDiff, line, wipeE, ex]
  have hb2 : (S1 ++ [MO.dic (cellKV ps rf)])[b]? = some (.dic (cntKV ps cn)) := get_app hb1
  have e4 : lockM 1 (lcM (dictS (slot true 1)) [7] (tgName 7) yesM (tupM (argsM [(slot false 7), (bin (slot true 1) (slot true 7) ixO)]))) [some (.im (.ref c)), some (.im (.ref b)), some (.im (.int w)), some (.im (outD (sortI ps) sh fl o)), none, none, none, none] (S1 ++ [MO.dic (cellKV ps rf)]) = .ok (.vl (ps.map fun p => .tup [.int p, .int (cn p)])) (S1 ++ [MO.dic (cellKV ps rf)]) := by
    refine lock_lc (i := 1) rfl hb2 (by omega) fun p hp => ⟨_, rfl, ?_⟩
    have ex : ixO (.im (.ref b)) (.im (.int p)) ((S1 ++ [MO.dic (cellKV ps rf)]).set b (.fdic (ps.map fun p => ((Sum.inl p : Key), D.int (cn p))))) = .ok (.im (.int (cn p))) ((S1 ++ [MO.dic (cellKV ps rf)]).set b (.fdic (ps.map fun p => ((Sum.inl p : Key), D.int (cn p))))) := ixO_dic (.inr (get_same hb2)) rfl (hg p hp)
    simp only [↓ap_bind, ↓ap_bindS, ↓ap_seqM, ↓ap_skipM, ↓ap_un, ↓ap_bin, ↓ap_slot, ↓ap_cst, ↓ap_andM, ↓ap_orM, ↓ap_notM, ↓ap_iteM, ↓ap_argsN, ↓ap_argsC, ↓ap_tupM, ↓ap_lstM, ↓ap_escM, ↓ap_appA, ↓ap_callM, ↓ap_exprM, ↓ap_retM, ↓ap_retN, ↓ap_ifM, ↓ap_setM, ↓ap_asgM, ↓ap_parM, ↓ap_par3M, ↓ap_putM, ↓ap_putOwnM, ↓ap_putFldM, ↓ap_methM, ↓ap_lmM, ↓ap_appendOwnM, ↓ap_dpopM, ↓ap_dpop2M, ↓ap_chainM, ↓ap_isiM, ↓ap_sliceM, ↓ap_bdN, ↓ap_bdA, ↓ap_lam, startE, List.map_cons, List.map_nil, List.length_cons, List.length_nil, List.replicate, List.cons_append, List.nil_append, List.append_nil, List.set_cons_zero, List.set_cons_succ, List.getElem?_cons_zero, List.getElem?_cons_succ, T.own, Bool.false_and, Bool.true_and, Bool.not_true, Bool.not_false, Bool.and_false, Bool.and_true, reduceIte, Bool.false_eq_true, escs, esc, tgName, tgTup, tgEach, Nat.zero_add, Nat.reduceAdd, Nat.reduceSub, Nat.reduceLeDiff, Nat.reduceLT, Nat.zero_lt_succ, true_and, Nat.reduceEqDiff, line, wipeE, ex]
  have d1 : dictF [.vl (ps.map fun p => .tup [.int p, .ref (rf p)])] S1 = .ok (.vd (cellKV ps rf)) S1 := dictF_map nd
  have d2 : dictF [.vl (ps.map fun p => .tup [.int p, .int (cn p)])] (S1 ++ [MO.dic (cellKV ps rf)]) = .ok (.vd (cntKV ps cn)) (S1 ++ [MO.dic (cellKV ps rf)]) := dictF_map nd
  have ll : (S1 ++ [MO.dic (cellKV ps rf)]).length = S1.length + 1 := by simp
  generalize hS2 : S1 ++ [MO.dic (cellKV ps rf)] ++ [MO.dic (cntKV ps cn)] = S2
  have hA : S2[S1.length]? = some (.dic (cellKV ps rf)) := by rw [← hS2]; exact get_app get_end
  have hB : S2[S1.length + 1]? = some (.dic (cntKV ps cn)) := by rw [← hS2, ← ll]; exact get_end
  have k2 : Kp S S2 := by rw [← hS2]; exact (k1.trans .app).trans .app
  have L : Lst S2 S1.length (S1.length + 1) ps ps cn m sh fl rf rg := ⟨hA, hB, hm2, fun _ h => h, nd, nd, by omega, r.kp k2⟩
  obtain ⟨S3, t, e5, e6, k3⟩ := law_drop_ok hfl L ho (by omega)
  have k13 : Kp S S3 := fun i o h => by
    have := get_lt (k1 _ _ h)
    exact k3 i o (by omega) (by omega) (k2 _ _ h)
  refine ⟨S3, ?_, k13⟩
  have hpl : plD 4 (outD (sortI ps) sh fl o) = true := plD_out fun p hp => strOk_shapes _ (hsh p (mem_sortI.mp hp))
  have e7 := eqO_self (S := S3) hpl (by omega)
  rw [F__law_right, ap_runF, m__law_right]
  cases o with
  | broken w1 =>
    have ht : t = brokenT w1 := e6
    subst ht
    have ix0 : ixO (.im (brokenT w1)) (.im (.int 0)) S3 = .ok (.im (.str "broken")) S3 := rfl
    have ho : outD (sortI ps) sh fl (.broken w1) = brokenT w1 := rfl
    rw [ho] at e7 e2 e3 e4
    simp only [↓ap_bind, ↓ap_bindS, ↓ap_seqM, ↓ap_skipM, ↓ap_un, ↓ap_bin, ↓ap_slot, ↓ap_cst, ↓ap_andM, ↓ap_orM, ↓ap_notM, ↓ap_iteM, ↓ap_argsN, ↓ap_argsC, ↓ap_tupM, ↓ap_lstM, ↓ap_escM, ↓ap_appA, ↓ap_callM, ↓ap_exprM, ↓ap_retM, ↓ap_retN, ↓ap_ifM, ↓ap_setM, ↓ap_asgM, ↓ap_parM, ↓ap_par3M, ↓ap_putM, ↓ap_putOwnM, ↓ap_putFldM, ↓ap_methM, ↓ap_lmM, ↓ap_appendOwnM, ↓ap_dpopM, ↓ap_dpop2M, ↓ap_chainM, ↓ap_isiM, ↓ap_sliceM, ↓ap_bdN, ↓ap_bdA, ↓ap_lam, startE, List.map_cons, List.map_nil, List.length_cons, List.length_nil, List.replicate, List.cons_append, List.nil_append, List.append_nil, List.set_cons_zero, List.set_cons_succ, List.getElem?_cons_zero, List.getElem?_cons_succ, T.own, Bool.false_and, Bool.true_and, Bool.not_true, Bool.not_false, Bool.and_false, Bool.and_true, reduceIte, Bool.false_eq_true, escs, esc, tgName, tgTup, tgEach, Nat.zero_add, Nat.reduceAdd, Nat.reduceSub, Nat.reduceLeDiff, Nat.reduceLT, Nat.zero_lt_succ, true_and, Nat.reduceEqDiff, line, e1, e2, e3, d1, e4, d2, ll, hS2, e5, ix0, eqO_broken, e7]
  | freed fr m' =>
    obtain ⟨ht, qs, cn', L'⟩ := e6
    subst ht
    have ix0 : ixO (.im (freedT fr)) (.im (.int 0)) S3 = .ok (.im (.str "freed")) S3 := rfl
    have hgq : ∀ p ∈ qs, getK (cntKV ps cn') (.inl p) = some (.int (cn' p)) := fun p hp => by unfold cntKV; rw [getK_map, if_pos (L'.sub p hp)]
    have hql := nodup_len L'.ndq L'.sub
    have rq : Recs S3 qs sh fl rf rg := ⟨fun p hp => L'.r.rcd p (L'.sub p hp), fun p hp => L'.r.fld p (L'.sub p hp)⟩
    have e8 := heap_ok rq L'.A L'.B hgq (by omega)
    have hq : sortI qs = sortI (here (sortI ps) m') := sortI_congr (perm_nodup L'.ndq (ndS.filter _) fun x => by
      unfold here
      rw [List.mem_filter, mem_sortI, L'.m_]
      constructor
      · intro h; exact ⟨L'.sub x h, by rw [if_pos h]; rfl⟩
      · rintro ⟨_, h⟩
        by_cases hx : x ∈ qs
        · exact hx
        · rw [if_neg hx] at h; cases h)
    have hh : heapT (sortI qs) cn' sh fl = heapT (sortI (here (sortI ps) m')) (fun p => (m' p).getD 0) sh fl := by
      rw [← hq]
      apply heapT_congr
      intro p hp
      rw [mem_sortI] at hp
      rw [L'.m_, if_pos hp]
      rfl
    rw [hh] at e8
    have eadd : addO (.im (freedT fr)) (.im (.tup [heapT (sortI (here (sortI ps) m')) (fun p => (m' p).getD 0) sh fl])) S3 = .ok (.im (outD (sortI ps) sh fl (.freed fr m'))) S3 := rfl
    simp only [↓ap_bind, ↓ap_bindS, ↓ap_seqM, ↓ap_skipM, ↓ap_un, ↓ap_bin, ↓ap_slot, ↓ap_cst, ↓ap_andM, ↓ap_orM, ↓ap_notM, ↓ap_iteM, ↓ap_argsN, ↓ap_argsC, ↓ap_tupM, ↓ap_lstM, ↓ap_escM, ↓ap_appA, ↓ap_callM, ↓ap_exprM, ↓ap_retM, ↓ap_retN, ↓ap_ifM, ↓ap_setM, ↓ap_asgM, ↓ap_parM, ↓ap_par3M, ↓ap_putM, ↓ap_putOwnM, ↓ap_putFldM, ↓ap_methM, ↓ap_lmM, ↓ap_appendOwnM, ↓ap_dpopM, ↓ap_dpop2M, ↓ap_chainM, ↓ap_isiM, ↓ap_sliceM, ↓ap_bdN, ↓ap_bdA, ↓ap_lam, startE, List.map_cons, List.map_nil, List.length_cons, List.length_nil, List.replicate, List.cons_append, List.nil_append, List.append_nil, List.set_cons_zero, List.set_cons_succ, List.getElem?_cons_zero, List.getElem?_cons_succ, T.own, Bool.false_and, Bool.true_and, Bool.not_true, Bool.not_false, Bool.and_false, Bool.and_true, reduceIte, Bool.false_eq_true, escs, esc, tgName, tgTup, tgEach, Nat.zero_add, Nat.reduceAdd, Nat.reduceSub, Nat.reduceLeDiff, Nat.reduceLT, Nat.zero_lt_succ, true_and, Nat.reduceEqDiff, line, e1, e2, e3, d1, e4, d2, ll, hS2, e5, ix0, eqO_freed, e8, eadd, e7]
end K71

namespace K71
open PySem PySem.Spec DL Giv
open L2 (Key atI ixN)
theorem spots_fact : ∀ p ∈ spotsL, p % 16 = 0 ∧ 16 ≤ p ∧ p ≤ 384 := by decide
theorem shapes_fit : ∀ s ∈ shapesL, fitsW s 2 := by
  intro s h
  simp only [shapesL, List.mem_cons, List.not_mem_nil, or_false] at h
  rcases h with rfl | rfl | rfl | rfl
  · exact .inl ⟨rfl, rfl⟩
  · exact .inr (.inl ⟨rfl, rfl⟩)
  · exact .inl ⟨rfl, rfl⟩
  · exact .inr (.inr ⟨rfl, by omega, by omega⟩)
theorem pair_lt : ∀ {l : List Int}, l.Pairwise (· ≤ ·) → l.Nodup → (∀ p ∈ l, p % 16 = 0) → l.Pairwise fun p q => p + 16 ≤ q
  | [], _, _, _ => .nil
  | x :: l, h1, h2, h3 => by
    rw [List.pairwise_cons] at h1
    rw [List.nodup_cons] at h2
    refine List.pairwise_cons.mpr ⟨fun y hy => ?_, pair_lt h1.2 h2.2 fun p hp => h3 p (by simp [hp])⟩
    have a := h1.1 y hy
    have b := h3 x (by simp)
    have c := h3 y (by simp [hy])
    have d : x ≠ y := fun e => h2.1 (e ▸ hy)
    omega
theorem fit_of {l : List Int} {c : Int → Int} {sh fl} (nd : l.Nodup) (hl : l.length < 60) (hs : ∀ p ∈ l, p ∈ spotsL) (hc : ∀ p ∈ l, 1 ≤ c p ∧ c p ≤ 1000000) (hsh : ∀ p ∈ l, sh p ∈ shapesL) (hf : ∀ p ∈ l, (fl p).length = 2) (hw : ∀ p ∈ l, ∀ w ∈ fl p, -2147483648 ≤ w ∧ w ≤ 2147483647) : Fit (sortI l) c sh fl := by
  have pm := sortI_perm l
  have hm : ∀ p, p ∈ sortI l → p ∈ l := fun p h => mem_sortI.mp h
  refine ⟨by rw [pm.length_eq]; omega, fun p hp => ?_, fun p hp => hc p (hm p hp), fun p hp => ?_, fun p hp => hw p (hm p hp), ?_⟩
  · have := spots_fact p (hs p (hm p hp))
    omega
  · rw [hf p (hm p hp)]
    exact shapes_fit _ (hsh p (hm p hp))
  · have := pair_lt (sortI_sorted l) (pm.nodup_iff.mpr nd) fun p hp => (spots_fact p (hs p (hm p hp))).1
    refine List.Pairwise.imp_of_mem (fun {a b} ha hb h => ?_) this
    rw [hf a (hm a ha)]
    omega
/-- all that the turns look at -/
structure Wd (S : Sto) (a c b b2 : Nat) (ps : List Int) (sh : Int → Str) (fl : Int → List Int) (rf rg : Int → Nat) (cn : Int → Int) : Prop where
  cup : ∃ x y, S[a]? = some (cupO x y) ∧ 0 ≤ x
  hc : S[c]? = some (.dic (cellKV ps rf))
  hb : S[b]? = some (.dic (cntKV ps cn))
  hb2 : S[b2]? = some (.dic (cntKV ps fun _ => 1))
  r : Recs S ps sh fl rf rg
  ne : ∀ p ∈ ps, a ≠ rf p ∧ a ≠ rg p
theorem Wd.kp {S S' : Sto} {a c b b2 ps sh fl rf rg cn} (w : Wd S a c b b2 ps sh fl rf rg cn) (k : Kp S S') : Wd S' a c b b2 ps sh fl rf rg cn := by
  obtain ⟨x, y, h, hx⟩ := w.cup
  exact ⟨⟨x, y, k _ _ h, hx⟩, k _ _ w.hc, k _ _ w.hb, k _ _ w.hb2, w.r.kp k, w.ne⟩
theorem Wd.roll {S : Sto} {a c b b2 ps sh fl rf rg cn} {x' y' : Int} (w : Wd S a c b b2 ps sh fl rf rg cn) (hx' : 0 ≤ x') : Wd (S.set a (cupO x' y')) a c b b2 ps sh fl rf rg cn := by
  obtain ⟨x, y, h, hx⟩ := w.cup
  have hne : ∀ {i : Nat} {kvs}, S[i]? = some (.dic kvs) → a ≠ i := fun {i kvs} h1 e => by rw [← e, h] at h1; cases h1
  exact ⟨⟨x', y', get_same h, hx'⟩, by rw [get_ne (hne w.hc), w.hc], by rw [get_ne (hne w.hb), w.hb], by rw [get_ne (hne w.hb2), w.hb2], ⟨fun p hp => by rw [get_ne (w.ne p hp).1, w.r.rcd p hp], fun p hp => by rw [get_ne (w.ne p hp).2, w.r.fld p hp]⟩, w.ne⟩
def litW : List Int := [1, 2, 3, 0, 4, 640, -2147483648]
theorem listF_dic {S : Sto} {c : Nat} {ps : List Int} {f : Int → D} (h : S[c]? = some (.dic (ps.map fun p => ((Sum.inl p : Key), f p)))) : listF [.im (.ref c)] S = .ok (.vl (ps.map D.int)) S := by
  unfold listF seqOf lstOf lstW dicOf
  simp only [h]
  have : (ps.map fun p => ((Sum.inl p : Key), f p)).map (fun kv => keyV kv.1) = ps.map D.int := by simp [keyV]
  rw [this]
abbrev turnB : MS := (seqM (setM 7 (callM 2 F__law_some (argsM [(slot false 1), (bin (bin (appA (argsM [(slot true 2)]) listF) (appA (argsM [(slot true 3)]) listF) addO) (lstM (argsM [(cst (.int 1)), (cst (.int 2)), (cst (.int 3)), (cst (.int 0)), (cst (.int 4)), (bin (cst (.int 16)) (cst (.int 40)) (DL.opI mulC (· * ·))), (un (bin (cst (.int 2)) (cst (.int 31)) (DL.opI powC fun i j => i ^ j.toNat)) negO)])) addO)]))) (seqM (ifM (orM (notM (callM 3 F__law_right (argsM [(slot false 2), (slot false 4), (slot false 7)]))) (notM (callM 3 F__law_right (argsM [(slot false 2), (slot false 5), (slot false 7)]))))
  (seqM (retM (cst (.bl false))) skipM)
  skipM) skipM))
theorem turn_loop {a c b b2 : Nat} {ps held : List Int} {sh fl rf rg cn} {t : T} (nd : ps.Nodup) (hl : ps.length < 20) (hhl : held.length < 50) (f1 : Fit (sortI ps) cn sh fl) (f2 : Fit (sortI ps) (fun _ => 1) sh fl) (hsh : ∀ p ∈ ps, sh p ∈ shapesL) (hfl : ∀ p ∈ ps, (fl p).length < 1000) (hpw : ∀ w ∈ ps ++ held, -2147483648 ≤ w ∧ w ≤ 2147483647) :
    ∀ (ds : List D) (S : Sto) (v6 v7 : Option T), Wd S a c b b2 ps sh fl rf rg cn → ∃ S' w6 w7, forR (tgName 6) turnB ds [some t, some (.im (.ref a)), some (.im (.ref c)), some (.im (.tup (held.map D.int))), some (.im (.ref b)), some (.im (.ref b2)), v6, v7, none, none, none, none, none, none, none, none, none] S = .ok (.nx, [some t, some (.im (.ref a)), some (.im (.ref c)), some (.im (.tup (held.map D.int))), some (.im (.ref b)), some (.im (.ref b2)), w6, w7, none, none, none, none, none, none, none, none, none]) S' ∧ Wd S' a c b b2 ps sh fl rf rg cn
  | [], S, v6, v7, w => ⟨S, v6, v7, rfl, w⟩
  | d :: ds, S, v6, v7, W => by
    obtain ⟨x, y, hcup, hx⟩ := W.cup
    obtain ⟨d1, x1, y1, e1, md, hx1⟩ := some_ok (t := .vl ((ps ++ held ++ litW).map D.int)) (ds := (ps ++ held ++ litW).map D.int) hcup hx (fun o => rfl) rfl (by simp [litW]; omega)
    obtain ⟨w, hw, rfl⟩ := List.mem_map.mp md
    have hwr : -2147483648 ≤ w ∧ w ≤ 2147483647 := by
      rcases List.mem_append.mp hw with h | h
      · exact hpw w h
      · have : ∀ x ∈ litW, -2147483648 ≤ x ∧ x ≤ 2147483647 := by decide
        exact this w h
    have W1 := W.roll (y' := y1) hx1
    generalize hS1 : S.set a (cupO x1 y1) = S1 at e1 W1
    obtain ⟨S2, e2, k2⟩ := right_ok W1.hc W1.hb W1.r nd (by omega) f1 hsh hfl hwr
    have W2 := W1.kp k2
    obtain ⟨S3, e3, k3⟩ := right_ok W2.hc W2.hb2 W2.r nd (by omega) f2 hsh hfl hwr
    have W3 := W2.kp k3
    obtain ⟨S', w6, w7, e, W'⟩ := turn_loop (t := t) nd hl hhl f1 f2 hsh hfl hpw ds S3 (some (.im d)) (some (.im (.int w))) W3
    refine ⟨S', w6, w7, ?_, W'⟩
    have l1 := listF_dic W.hc
    have l2 : listF [.im (.tup (held.map D.int))] S = .ok (.vl (held.map D.int)) S := rfl
    have l3 : addO (.vl (ps.map D.int)) (.vl (held.map D.int)) S = .ok (.vl ((ps ++ held).map D.int)) S := by rw [addO_vl (by simp [line]; omega), List.map_append]
    have l4 : DL.opI mulC (fun i j => i * j) (.im (.int 16)) (.im (.int 40)) S = .ok (.im (.int 640)) S := opI_i (by decide)
    have l5 : DL.opI powC (fun i j => i ^ j.toNat) (.im (.int 2)) (.im (.int 31)) S = .ok (.im (.int 2147483648)) S := opI_i (by decide)
    have l6 : addO (.vl ((ps ++ held).map D.int)) (.vl [.int 1, .int 2, .int 3, .int 0, .int 4, .int 640, .int (-2147483648)]) S = .ok (.vl ((ps ++ held ++ litW).map D.int)) S := by
      have : [D.int 1, .int 2, .int 3, .int 0, .int 4, .int 640, .int (-2147483648)] = litW.map D.int := rfl
      rw [this, addO_vl (by simp [line, litW]; omega), ← List.map_append]
    have l7 : negO (.im (.int 2147483648)) S = .ok (.im (.int (-2147483648))) S := rfl
    rw [forR]
    simp only [↓ap_bind, ↓ap_bindS, ↓ap_seqM, ↓ap_skipM, ↓ap_un, ↓ap_bin, ↓ap_slot, ↓ap_cst, ↓ap_andM, ↓ap_orM, ↓ap_notM, ↓ap_iteM, ↓ap_argsN, ↓ap_argsC, ↓ap_tupM, ↓ap_lstM, ↓ap_escM, ↓ap_appA, ↓ap_callM, ↓ap_exprM, ↓ap_retM, ↓ap_retN, ↓ap_ifM, ↓ap_setM, ↓ap_asgM, ↓ap_parM, ↓ap_par3M, ↓ap_putM, ↓ap_putOwnM, ↓ap_putFldM, ↓ap_methM, ↓ap_lmM, ↓ap_appendOwnM, ↓ap_dpopM, ↓ap_dpop2M, ↓ap_chainM, ↓ap_isiM, ↓ap_sliceM, ↓ap_bdN, ↓ap_bdA, ↓ap_lam, startE, List.map_cons, List.map_nil, List.length_cons, List.length_nil, List.replicate, List.cons_append, List.nil_append, List.append_nil, List.set_cons_zero, List.set_cons_succ, List.getElem?_cons_zero, List.getElem?_cons_succ, T.own, Bool.false_and, Bool.true_and, Bool.not_true, Bool.not_false, Bool.and_false, Bool.and_true, reduceIte, Bool.false_eq_true, escs, esc, tgName, tgTup, tgEach, Nat.zero_add, Nat.reduceAdd, Nat.reduceSub, Nat.reduceLeDiff, Nat.reduceLT, Nat.zero_lt_succ, true_and, Nat.reduceEqDiff, line, l1, l2, l3, l4, l5, l6, l7, e1, e2, e3]
    exact e
/-! the held words given back -/
abbrev heldB : MS := (seqM (setM 10 (callM 2 F_freed_by (argsM [(slot false 8), (slot false 7)]))) (seqM (ifM (bin (bin (slot true 10) (cst (.int 0)) ixO) (cst (.str "freed")) neO)
  (seqM (retM (cst (.bl false))) skipM)
  skipM) (seqM (parM 9 8 (argsM [(bin (slot true 9) (bin (slot true 10) (cst (.int 1)) ixO) addO), (bin (slot true 10) (cst (.int 2)) ixO)])) skipM)))
theorem tot_le {fl : Int → List Int} {ps : List Int} {m : Mp} {H : List Int} {p : Int} (hf : ∀ p ∈ ps, (fl p).length = 2) : tot fl ps m none H p ≤ H.length + 2 * ps.length := by
  unfold tot
  have h1 : H.count p ≤ H.length := List.count_le_length
  have h2 : ∀ l : List Int, (∀ q ∈ l, (fl q).length = 2) → (l.flatMap fl).count p ≤ 2 * l.length := by
    intro l
    induction l with
    | nil => intro _; simp
    | cons q l ih =>
      intro h
      rw [List.flatMap_cons, List.count_append, List.length_cons]
      have a := ih fun q hq => h q (by simp [hq])
      have b : (fl q).count p ≤ (fl q).length := List.count_le_length
      have c := h q (by simp)
      omega
  have h3 := h2 ((here ps m).filter fun q => decide (some q ≠ (none : Option Int))) fun q hq => hf q (by
    have := (List.mem_filter.mp hq).1
    unfold here at this
    exact (List.mem_filter.mp this).1)
  have h4 : ((here ps m).filter fun q => decide (some q ≠ (none : Option Int))).length ≤ ps.length := Nat.le_trans (List.length_filter_le _ _) (List.length_filter_le _ _)
  omega
theorem here_mem {ps : List Int} {m : Mp} {x : Int} : x ∈ here ps m ↔ x ∈ ps ∧ (m x).isSome = true := by
  unfold here
  rw [List.mem_filter]
theorem held_back {ps : List Int} {sh fl} {v0 v1 v2 v3 v4 v5 v6 v11 v12 v13 v14 v15 v16 : Option T} (nd : ps.Nodup) (hl : ps.length < 20) (hs : ∀ p ∈ ps, p ∈ spotsL) (hsh : ∀ p ∈ ps, sh p ∈ shapesL) (hf : ∀ p ∈ ps, (fl p).length = 2) (hpw : ∀ p ∈ ps, ∀ w ∈ fl p, -2147483648 ≤ w ∧ w ≤ 2147483647) :
    ∀ (H : List Int) (S : Sto) (m : Mp) (fr : List Int) (v7 v10 : Option T), Ex fl ps m none H [] → (fr ++ here ps m).Perm ps → (∀ w ∈ H, -2147483648 ≤ w ∧ w ≤ 2147483647) → H.length < 50 →
    ∃ S' m' fr' w7 w10, forR (tgName 7) heldB (H.map D.int) [v0, v1, v2, v3, v4, v5, v6, v7, some (.im (heapT (sortI (here ps m)) (fun p => (m p).getD 0) sh fl)), some (.im (.tup (fr.map D.int))), v10, v11, v12, v13, v14, v15, v16] S = .ok (.nx, [v0, v1, v2, v3, v4, v5, v6, w7, some (.im (heapT (sortI (here ps m')) (fun p => (m' p).getD 0) sh fl)), some (.im (.tup (fr'.map D.int))), w10, v11, v12, v13, v14, v15, v16]) S' ∧ Ex fl ps m' none [] [] ∧ (fr' ++ here ps m').Perm ps ∧ Kp S S'
  | [], S, m, fr, v7, v10, x, pm, hw, hH => ⟨S, m, fr, v7, v10, rfl, x, pm, .refl⟩
  | w :: H, S, m, fr, v7, v10, x, pm, hw, hH => by
    simp only [List.length_cons] at hH
    have hhl : (here ps m).length ≤ ps.length := List.length_filter_le _ _
    have ndh : (here ps m).Nodup := nd.filter _
    have hin : ∀ p ∈ here ps m, p ∈ ps := fun p hp => (here_mem.mp hp).1
    have hcnt : ∀ p ∈ here ps m, 1 ≤ (m p).getD 0 ∧ (m p).getD 0 ≤ 1000000 := fun p hp => by
      obtain ⟨c, hc⟩ := Option.isSome_iff_exists.mp (here_mem.mp hp).2
      have h4 := (x.four p (by rw [hc]; rfl)).1
      have h1 := x.ex p h4
      have h2 := x.row p
      rw [hc] at h1 h2 ⊢
      simp only at h1
      have h3 := tot_le (m := m) (H := w :: H) (p := p) hf
      have h5 : c ≠ 0 := fun e => by have := h2.mpr (by rw [e]); cases this
      simp only [List.length_cons] at h3
      simp only [Option.getD]
      omega
    have f : Fit (sortI (here ps m)) (fun p => (m p).getD 0) sh fl := fit_of ndh (by omega) (fun p hp => hs p (hin p hp)) hcnt (fun p hp => hsh p (hin p hp)) (fun p hp => hf p (hin p hp)) (fun p hp => hpw p (hin p hp))
    obtain ⟨fr2, m2, e1, x2, pm2⟩ := drop_ex nd (ps' := here ps m) (k := 70) x [] (by simp) (by omega)
    rw [List.nil_append] at pm2
    have hm : ∀ p, m p = if p ∈ sortI (here ps m) then some ((m p).getD 0) else none := fun p => by
      simp only [mem_sortI, here_mem]
      cases e : m p with
      | none => simp
      | some c => rw [if_pos ⟨(x.four p (by rw [e]; rfl)).2, rfl⟩]; rfl
    have ndS : (sortI (here ps m)).Nodup := (sortI_perm _).nodup_iff.mpr ndh
    obtain ⟨S1, e2, k1⟩ := freed_by_ok (S := S) f ndS hm e1 (by omega) (hw w (by simp))
    have hsub : ∀ p ∈ here ps m2, p ∈ here ps m := fun p hp => pm2.mem_iff.mp (by simp [hp])
    have hq : sortI (here (sortI (here ps m)) m2) = sortI (here ps m2) := sortI_congr (perm_nodup (ndS.filter _) (nd.filter _) fun y => by
      show y ∈ here (sortI (here ps m)) m2 ↔ y ∈ here ps m2
      rw [here_mem, mem_sortI]
      constructor
      · rintro ⟨h1, h2⟩; exact here_mem.mpr ⟨hin y h1, h2⟩
      · intro h; exact ⟨hsub y h, (here_mem.mp h).2⟩)
    have ho : outD (sortI (here ps m)) sh fl (.freed fr2 m2) = .tup [.str "freed", .tup (fr2.map D.int), heapT (sortI (here ps m2)) (fun p => (m2 p).getD 0) sh fl] := by
      show D.tup [.str "freed", .tup (fr2.map D.int), heapT (sortI (here (sortI (here ps m)) m2)) (fun p => (m2 p).getD 0) sh fl] = _
      rw [hq]
    rw [ho] at e2
    have pm3 : ((fr ++ fr2) ++ here ps m2).Perm ps := by
      rw [List.append_assoc]
      exact (pm2.append_left fr).trans pm
    obtain ⟨S', m', fr', w7, w10, e3, x3, p3, k3⟩ := held_back (v0 := v0) (v1 := v1) (v2 := v2) (v3 := v3) (v4 := v4) (v5 := v5) (v6 := v6) (v11 := v11) (v12 := v12) (v13 := v13) (v14 := v14) (v15 := v15) (v16 := v16) nd hl hs hsh hf hpw H S1 m2 (fr ++ fr2) (some (.im (.int w))) (some (.im (.tup [.str "freed", .tup (fr2.map D.int), heapT (sortI (here ps m2)) (fun p => (m2 p).getD 0) sh fl]))) x2 pm3 (fun y hy => hw y (by simp [hy])) (by omega)
    refine ⟨S', m', fr', w7, w10, ?_, x3, p3, k1.trans k3⟩
    have hfl := pm.length_eq
    have hfl2 := pm3.length_eq
    simp only [List.length_append] at hfl hfl2
    have ea : addO (.im (.tup (fr.map D.int))) (.im (.tup (fr2.map D.int))) S1 = .ok (.im (.tup ((fr ++ fr2).map D.int))) S1 := by
      have : addO (.im (.tup (fr.map D.int))) (.im (.tup (fr2.map D.int))) S1 = if (fr.map D.int).length + (fr2.map D.int).length ≤ line then .ok (.im (.tup (fr.map D.int ++ fr2.map D.int))) S1 else .stuck := rfl
      rw [this, if_pos (by simp [line]; omega), List.map_append]
    rw [List.map_cons, forR]
    simp only [↓ap_bind, ↓ap_bindS, ↓ap_seqM, ↓ap_skipM, ↓ap_un, ↓ap_bin, ↓ap_slot, ↓ap_cst, ↓ap_andM, ↓ap_orM, ↓ap_notM, ↓ap_iteM, ↓ap_argsN, ↓ap_argsC, ↓ap_tupM, ↓ap_lstM, ↓ap_escM, ↓ap_appA, ↓ap_callM, ↓ap_exprM, ↓ap_retM, ↓ap_retN, ↓ap_ifM, ↓ap_setM, ↓ap_asgM, ↓ap_parM, ↓ap_par3M, ↓ap_putM, ↓ap_putOwnM, ↓ap_putFldM, ↓ap_methM, ↓ap_lmM, ↓ap_appendOwnM, ↓ap_dpopM, ↓ap_dpop2M, ↓ap_chainM, ↓ap_isiM, ↓ap_sliceM, ↓ap_bdN, ↓ap_bdA, ↓ap_lam, startE, List.map_cons, List.map_nil, List.length_cons, List.length_nil, List.replicate, List.cons_append, List.nil_append, List.append_nil, List.set_cons_zero, List.set_cons_succ, List.getElem?_cons_zero, List.getElem?_cons_succ, T.own, Bool.false_and, Bool.true_and, Bool.not_true, Bool.not_false, Bool.and_false, Bool.and_true, reduceIte, Bool.false_eq_true, escs, esc, tgName, tgTup, tgEach, Nat.zero_add, Nat.reduceAdd, Nat.reduceSub, Nat.reduceLeDiff, Nat.reduceLT, Nat.zero_lt_succ, true_and, Nat.reduceEqDiff, line, e2, ix_tup, atI_0, atI_1, atI_2, neO_freed, ea]
    exact e3
end K71

namespace K71
open PySem PySem.Spec DL Giv
open L2 (Key atI ixN)
instance (s : Str) (n : Nat) : Decidable (fitsW s n) := by unfold fitsW; infer_instance
/-! ### the written heaps -/
def pick1 {α : Type} (z : α) : List (Int × α) → Int → α
  | [], _ => z
  | p :: r, x => if x = p.1 then p.2 else pick1 z r x
/-- a written heap: places with count, shape, fields -/
structure Row where
  ps : List Int
  c : List (Int × Int)
  s : List (Int × Str)
  f : List (Int × List Int)
def Row.D (r : Row) : D := heapT r.ps (pick1 0 r.c) (pick1 "" r.s) (pick1 [] r.f)
def Row.okB (r : Row) : Bool := decide (r.ps.length ≤ 62) && (decide r.ps.Nodup && (r.ps.all (fun p => decide (16 ≤ p ∧ p ≤ 2147483647 ∧ p % 4 = 0) && (decide (1 ≤ pick1 0 r.c p ∧ pick1 0 r.c p ≤ 1000000) && (decide (fitsW (pick1 "" r.s p) (pick1 [] r.f p).length) && (pick1 [] r.f p).all fun w => decide (-2147483648 ≤ w ∧ w ≤ 2147483647)))) && decide (r.ps.Pairwise fun p q => p + 8 + 4 * (((pick1 [] r.f p).length : Nat) : Int) ≤ q)))
def Row.m (r : Row) : Mp := fun p => if p ∈ r.ps then some (pick1 0 r.c p) else none
def Row.out (r : Row) (w : Int) : Option DL.D := (drop (pick1 [] r.f) 70 r.m w).map (outD r.ps (pick1 "" r.s) (pick1 [] r.f))
theorem Row.fit {r : Row} (h : r.okB = true) : Fit r.ps (pick1 0 r.c) (pick1 "" r.s) (pick1 [] r.f) ∧ r.ps.Nodup := by
  unfold Row.okB at h
  simp only [Bool.and_eq_true, decide_eq_true_eq, List.all_eq_true] at h
  obtain ⟨h1, h2, h3, h4⟩ := h
  exact ⟨⟨h1, fun p hp => (h3 p hp).1, fun p hp => (h3 p hp).2.1, fun p hp => (h3 p hp).2.2.1, fun p hp => (h3 p hp).2.2.2, h4⟩, h2⟩
theorem Row.freed {r : Row} {w : Int} {d : DL.D} {S : Sto} (h : r.okB = true) (hw : -2147483648 ≤ w ∧ w ≤ 2147483647) (e : r.out w = some d) : ∃ S', F_freed_by [.im r.D, .im (.int w)] S = .ok (.im d) S' ∧ Kp S S' := by
  obtain ⟨f, nd⟩ := Row.fit h
  unfold Row.out at e
  cases ho : drop (pick1 [] r.f) 70 r.m w with
  | none => rw [ho] at e; cases e
  | some o =>
    rw [ho] at e
    have e : outD r.ps (pick1 "" r.s) (pick1 [] r.f) o = d := Option.some.inj e
    subst e
    exact freed_by_ok f nd (fun p => rfl) ho (by omega) hw
def treeR : Row := ⟨[16, 40, 56, 72], [(16, 1), (40, 2), (56, 2), (72, 1)], [(16, "fun"), (40, "link"), (56, "pair"), (72, "link")], [(16, [56, 40, 7, 56]), (40, [5, 2]), (56, [72, 40]), (72, [3, 2])]⟩
def treeR2 : Row := ⟨[16, 56, 72], [(16, 1), (56, 2), (72, 1)], [(16, "fun"), (56, "pair"), (72, "link")], [(16, [56, 40, 7, 56]), (56, [72, 40]), (72, [3, 2])]⟩
def ringR : Row := ⟨[16, 32], [(16, 2), (32, 1)], [(16, "link"), (32, "link")], [(16, [5, 32]), (32, [7, 16])]⟩
def twiceR : Row := ⟨[16, 32], [(16, 1), (32, 1)], [(16, "link"), (32, "pair")], [(16, [3, 32]), (32, [16, 1])]⟩
def noneR : Row := ⟨[], [], [], []⟩
theorem tree_ok : treeR.okB = true := by decide +kernel
theorem tree2_ok : treeR2.okB = true := by decide +kernel
theorem ring_ok : ringR.okB = true := by decide +kernel
theorem twice_ok : twiceR.okB = true := by decide +kernel
theorem none_ok : noneR.okB = true := by decide +kernel
def cl (p c : Int) (s : Str) (f : List DL.D) : DL.D := .tup [.int p, .int c, .str s, .tup f]
abbrev treeD : DL.D := .tup [.tup [.int 16, .int 1, .str "fun", .tup [.int 56, .int 40, .int 7, .int 56]], .tup [.int 40, .int 2, .str "link", .tup [.int 5, .int 2]], .tup [.int 56, .int 2, .str "pair", .tup [.int 72, .int 40]], .tup [.int 72, .int 1, .str "link", .tup [.int 3, .int 2]]]
abbrev tree2D : DL.D := .tup [.tup [.int 16, .int 1, .str "fun", .tup [.int 56, .int 40, .int 7, .int 56]], .tup [.int 56, .int 2, .str "pair", .tup [.int 72, .int 40]], .tup [.int 72, .int 1, .str "link", .tup [.int 3, .int 2]]]
abbrev tree3D : DL.D := .tup [.tup [.int 16, .int 1, .str "fun", .tup [.int 56, .int 40, .int 7, .int 56]], .tup [.int 40, .int 2, .str "link", .tup [.int 5, .int 2]], .tup [.int 56, .int 1, .str "pair", .tup [.int 72, .int 40]], .tup [.int 72, .int 1, .str "link", .tup [.int 3, .int 2]]]
abbrev ringD : DL.D := .tup [.tup [.int 16, .int 2, .str "link", .tup [.int 5, .int 32]], .tup [.int 32, .int 1, .str "link", .tup [.int 7, .int 16]]]
abbrev ring2D : DL.D := .tup [.tup [.int 16, .int 1, .str "link", .tup [.int 5, .int 32]], .tup [.int 32, .int 1, .str "link", .tup [.int 7, .int 16]]]
abbrev ring3D : DL.D := .tup [.tup [.int 16, .int 1, .str "link", .tup [.int 5, .int 32]]]
abbrev twiceD : DL.D := .tup [.tup [.int 16, .int 1, .str "link", .tup [.int 3, .int 32]], .tup [.int 32, .int 1, .str "pair", .tup [.int 16, .int 1]]]
theorem tree_eq : treeR.D = treeD := by rfl
theorem tree2_eq : treeR2.D = tree2D := by rfl
theorem ring_eq : ringR.D = ringD := by rfl
theorem twice_eq : twiceR.D = twiceD := by rfl
theorem none_eq : noneR.D = .tup [] := by rfl
theorem o1 : treeR.out 16 = some (.tup [.str "freed", .tup [.int 16, .int 56, .int 72, .int 40], .tup []]) := by rfl
theorem o2 : treeR2.out 16 = some (.tup [.str "broken", .int 40]) := by rfl
theorem o3 : treeR.out 56 = some (.tup [.str "freed", .tup [], tree3D]) := by rfl
theorem o4 : ringR.out 16 = some (.tup [.str "freed", .tup [], ring2D]) := by rfl
theorem o5 : ringR.out 32 = some (.tup [.str "freed", .tup [.int 32], ring3D]) := by rfl
theorem o6 : twiceR.out 16 = some (.tup [.str "broken", .int 16]) := by rfl
theorem o7 : treeR.out 5 = some (.tup [.str "freed", .tup [], treeD]) := by rfl
theorem o8 : noneR.out 0 = some (.tup [.str "broken", .int 0]) := by rfl
theorem neO_self {S : Sto} {d : DL.D} (h : plD 10 d = true) : neO (.im d) (.im d) S = .ok (.im (.bl false)) S := by
  unfold neO
  rw [eq_self h (by omega)]
  rfl
theorem eq_self_vl {S : Sto} {ds : List DL.D} (h : ds.all (plD 10) = true) : eqT S (.vl ds) (.vl ds) = some true := by
  obtain ⟨ps, e1, e2, e3⟩ := mapO_all (f := toPy S 200) (n := 10) (ds := ds) fun d hd => toPy_plain S 10 200 d (List.all_eq_true.mp h d hd) (by omega)
  show eqvO ((mapO (toPy S 200) ds).map .list) ((mapO (toPy S 200) ds).map .list) = _
  rw [e1]
  unfold eqvO
  simp only [Option.map]
  have c : (PyData.list ps).canLay0 = true := by simp [PyData.canLay0, e2]
  rw [if_pos (by simp only [Bool.and_eq_true, decide_eq_true_eq]; exact ⟨c, c, by simp [PyData.depth]; omega⟩), PySem.SeqAt.eqv_refl _ c]
/-! ### the errors -/
theorem tupOf_no {S : Sto} {t : DL.D} {ty : String} {lo hi : Int} (h : tyN S (.im t) = some ty) (h2 : tyLe ty "tuple" = false) : F_is_tuple_of [.im t, .im (.int lo), .im (.int hi)] S = .ok (.im (.bl false)) S := by
  rw [F_is_tuple_of, ap_runF, m_is_tuple_of]
  simp only [↓ap_bind, ↓ap_bindS, ↓ap_seqM, ↓ap_skipM, ↓ap_un, ↓ap_bin, ↓ap_slot, ↓ap_cst, ↓ap_andM, ↓ap_orM, ↓ap_notM, ↓ap_iteM, ↓ap_argsN, ↓ap_argsC, ↓ap_tupM, ↓ap_lstM, ↓ap_escM, ↓ap_appA, ↓ap_callM, ↓ap_exprM, ↓ap_retM, ↓ap_retN, ↓ap_ifM, ↓ap_setM, ↓ap_asgM, ↓ap_parM, ↓ap_par3M, ↓ap_putM, ↓ap_putOwnM, ↓ap_putFldM, ↓ap_methM, ↓ap_lmM, ↓ap_appendOwnM, ↓ap_dpopM, ↓ap_dpop2M, ↓ap_chainM, ↓ap_isiM, ↓ap_sliceM, ↓ap_bdN, ↓ap_bdA, ↓ap_lam, startE, List.map_cons, List.map_nil, List.length_cons, List.length_nil, List.replicate, List.cons_append, List.nil_append, List.append_nil, List.set_cons_zero, List.set_cons_succ, List.getElem?_cons_zero, List.getElem?_cons_succ, T.own, Bool.false_and, Bool.true_and, Bool.not_true, Bool.not_false, Bool.and_false, Bool.and_true, reduceIte, Bool.false_eq_true, escs, esc, tgName, tgTup, tgEach, Nat.zero_add, Nat.reduceAdd, Nat.reduceSub, Nat.reduceLeDiff, Nat.reduceLT, Nat.zero_lt_succ, true_and, Nat.reduceEqDiff, line, h, h2]
theorem heap_no {S : Sto} {t u : DL.D} {ty : String} (h : tyN S (.im t) = some ty) (h2 : tyLe ty "tuple" = false) : F_freed_by [.im t, .im u] S = .exc ⟨"InvalidHeap", []⟩ S := by
  have e1 : F_fits_heap [.im t] S = .ok (.im (.bl false)) S := by
    rw [F_fits_heap, ap_runF, m_fits_heap]
    simp only [↓ap_bind, ↓ap_bindS, ↓ap_seqM, ↓ap_skipM, ↓ap_un, ↓ap_bin, ↓ap_slot, ↓ap_cst, ↓ap_andM, ↓ap_orM, ↓ap_notM, ↓ap_iteM, ↓ap_argsN, ↓ap_argsC, ↓ap_tupM, ↓ap_lstM, ↓ap_escM, ↓ap_appA, ↓ap_callM, ↓ap_exprM, ↓ap_retM, ↓ap_retN, ↓ap_ifM, ↓ap_setM, ↓ap_asgM, ↓ap_parM, ↓ap_par3M, ↓ap_putM, ↓ap_putOwnM, ↓ap_putFldM, ↓ap_methM, ↓ap_lmM, ↓ap_appendOwnM, ↓ap_dpopM, ↓ap_dpop2M, ↓ap_chainM, ↓ap_isiM, ↓ap_sliceM, ↓ap_bdN, ↓ap_bdA, ↓ap_lam, startE, List.map_cons, List.map_nil, List.length_cons, List.length_nil, List.replicate, List.cons_append, List.nil_append, List.append_nil, List.set_cons_zero, List.set_cons_succ, List.getElem?_cons_zero, List.getElem?_cons_succ, T.own, Bool.false_and, Bool.true_and, Bool.not_true, Bool.not_false, Bool.and_false, Bool.and_true, reduceIte, Bool.false_eq_true, escs, esc, tgName, tgTup, tgEach, Nat.zero_add, Nat.reduceAdd, Nat.reduceSub, Nat.reduceLeDiff, Nat.reduceLT, Nat.zero_lt_succ, true_and, Nat.reduceEqDiff, line, c_CELLS, tupOf_no h h2]
  have e2 : F_need_heap [.im t] S = .exc ⟨"InvalidHeap", []⟩ S := by
    rw [F_need_heap, ap_runF, m_need_heap]
    simp only [↓ap_bind, ↓ap_bindS, ↓ap_seqM, ↓ap_skipM, ↓ap_un, ↓ap_bin, ↓ap_slot, ↓ap_cst, ↓ap_andM, ↓ap_orM, ↓ap_notM, ↓ap_iteM, ↓ap_argsN, ↓ap_argsC, ↓ap_tupM, ↓ap_lstM, ↓ap_escM, ↓ap_appA, ↓ap_callM, ↓ap_exprM, ↓ap_retM, ↓ap_retN, ↓ap_ifM, ↓ap_setM, ↓ap_asgM, ↓ap_parM, ↓ap_par3M, ↓ap_putM, ↓ap_putOwnM, ↓ap_putFldM, ↓ap_methM, ↓ap_lmM, ↓ap_appendOwnM, ↓ap_dpopM, ↓ap_dpop2M, ↓ap_chainM, ↓ap_isiM, ↓ap_sliceM, ↓ap_bdN, ↓ap_bdA, ↓ap_lam, startE, List.map_cons, List.map_nil, List.length_cons, List.length_nil, List.replicate, List.cons_append, List.nil_append, List.append_nil, List.set_cons_zero, List.set_cons_succ, List.getElem?_cons_zero, List.getElem?_cons_succ, T.own, Bool.false_and, Bool.true_and, Bool.not_true, Bool.not_false, Bool.and_false, Bool.and_true, reduceIte, Bool.false_eq_true, escs, esc, tgName, tgTup, tgEach, Nat.zero_add, Nat.reduceAdd, Nat.reduceSub, Nat.reduceLeDiff, Nat.reduceLT, Nat.zero_lt_succ, true_and, Nat.reduceEqDiff, line, e1, raiseM]
  rw [F_freed_by, ap_runF, m_freed_by]
  simp only [↓ap_bind, ↓ap_bindS, ↓ap_seqM, ↓ap_skipM, ↓ap_un, ↓ap_bin, ↓ap_slot, ↓ap_cst, ↓ap_andM, ↓ap_orM, ↓ap_notM, ↓ap_iteM, ↓ap_argsN, ↓ap_argsC, ↓ap_tupM, ↓ap_lstM, ↓ap_escM, ↓ap_appA, ↓ap_callM, ↓ap_exprM, ↓ap_retM, ↓ap_retN, ↓ap_ifM, ↓ap_setM, ↓ap_asgM, ↓ap_parM, ↓ap_par3M, ↓ap_putM, ↓ap_putOwnM, ↓ap_putFldM, ↓ap_methM, ↓ap_lmM, ↓ap_appendOwnM, ↓ap_dpopM, ↓ap_dpop2M, ↓ap_chainM, ↓ap_isiM, ↓ap_sliceM, ↓ap_bdN, ↓ap_bdA, ↓ap_lam, startE, List.map_cons, List.map_nil, List.length_cons, List.length_nil, List.replicate, List.cons_append, List.nil_append, List.append_nil, List.set_cons_zero, List.set_cons_succ, List.getElem?_cons_zero, List.getElem?_cons_succ, T.own, Bool.false_and, Bool.true_and, Bool.not_true, Bool.not_false, Bool.and_false, Bool.and_true, reduceIte, Bool.false_eq_true, escs, esc, tgName, tgTup, tgEach, Nat.zero_add, Nat.reduceAdd, Nat.reduceSub, Nat.reduceLeDiff, Nat.reduceLT, Nat.zero_lt_succ, true_and, Nat.reduceEqDiff, line, e2]
theorem word_no {S : Sto} {t : DL.D} (h : F_is_word [.im t] S = .ok (.im (.bl false)) S) : F_freed_by [.im ringD, .im t] S = .exc ⟨"InvalidWord", []⟩ S := by
  have e1 : F_need_heap [.im ringD] S = .ok (.im .non) S := by
    have := fits_heap_ok (S := S) (Row.fit ring_ok).1
    have e : heapT ringR.ps (pick1 0 ringR.c) (pick1 "" ringR.s) (pick1 [] ringR.f) = ringD := ring_eq
    rw [e] at this
    rw [F_need_heap, ap_runF, m_need_heap]
    simp only [↓ap_bind, ↓ap_bindS, ↓ap_seqM, ↓ap_skipM, ↓ap_un, ↓ap_bin, ↓ap_slot, ↓ap_cst, ↓ap_andM, ↓ap_orM, ↓ap_notM, ↓ap_iteM, ↓ap_argsN, ↓ap_argsC, ↓ap_tupM, ↓ap_lstM, ↓ap_escM, ↓ap_appA, ↓ap_callM, ↓ap_exprM, ↓ap_retM, ↓ap_retN, ↓ap_ifM, ↓ap_setM, ↓ap_asgM, ↓ap_parM, ↓ap_par3M, ↓ap_putM, ↓ap_putOwnM, ↓ap_putFldM, ↓ap_methM, ↓ap_lmM, ↓ap_appendOwnM, ↓ap_dpopM, ↓ap_dpop2M, ↓ap_chainM, ↓ap_isiM, ↓ap_sliceM, ↓ap_bdN, ↓ap_bdA, ↓ap_lam, startE, List.map_cons, List.map_nil, List.length_cons, List.length_nil, List.replicate, List.cons_append, List.nil_append, List.append_nil, List.set_cons_zero, List.set_cons_succ, List.getElem?_cons_zero, List.getElem?_cons_succ, T.own, Bool.false_and, Bool.true_and, Bool.not_true, Bool.not_false, Bool.and_false, Bool.and_true, reduceIte, Bool.false_eq_true, escs, esc, tgName, tgTup, tgEach, Nat.zero_add, Nat.reduceAdd, Nat.reduceSub, Nat.reduceLeDiff, Nat.reduceLT, Nat.zero_lt_succ, true_and, Nat.reduceEqDiff, line, this]
  have e2 : F_need_words [.im t] S = .exc ⟨"InvalidWord", []⟩ S := by
    rw [F_need_words, ap_runF, m_need_words]
    simp only [↓ap_bind, ↓ap_bindS, ↓ap_seqM, ↓ap_skipM, ↓ap_un, ↓ap_bin, ↓ap_slot, ↓ap_cst, ↓ap_andM, ↓ap_orM, ↓ap_notM, ↓ap_iteM, ↓ap_argsN, ↓ap_argsC, ↓ap_tupM, ↓ap_lstM, ↓ap_escM, ↓ap_appA, ↓ap_callM, ↓ap_exprM, ↓ap_retM, ↓ap_retN, ↓ap_ifM, ↓ap_setM, ↓ap_asgM, ↓ap_parM, ↓ap_par3M, ↓ap_putM, ↓ap_putOwnM, ↓ap_putFldM, ↓ap_methM, ↓ap_lmM, ↓ap_appendOwnM, ↓ap_dpopM, ↓ap_dpop2M, ↓ap_chainM, ↓ap_isiM, ↓ap_sliceM, ↓ap_bdN, ↓ap_bdA, ↓ap_lam, startE, List.map_cons, List.map_nil, List.length_cons, List.length_nil, List.replicate, List.cons_append, List.nil_append, List.append_nil, List.set_cons_zero, List.set_cons_succ, List.getElem?_cons_zero, List.getElem?_cons_succ, T.own, Bool.false_and, Bool.true_and, Bool.not_true, Bool.not_false, Bool.and_false, Bool.and_true, reduceIte, Bool.false_eq_true, escs, esc, tgName, tgTup, tgEach, Nat.zero_add, Nat.reduceAdd, Nat.reduceSub, Nat.reduceLeDiff, Nat.reduceLT, Nat.zero_lt_succ, true_and, Nat.reduceEqDiff, line, h, raiseM]
  rw [F_freed_by, ap_runF, m_freed_by]
  simp only [↓ap_bind, ↓ap_bindS, ↓ap_seqM, ↓ap_skipM, ↓ap_un, ↓ap_bin, ↓ap_slot, ↓ap_cst, ↓ap_andM, ↓ap_orM, ↓ap_notM, ↓ap_iteM, ↓ap_argsN, ↓ap_argsC, ↓ap_tupM, ↓ap_lstM, ↓ap_escM, ↓ap_appA, ↓ap_callM, ↓ap_exprM, ↓ap_retM, ↓ap_retN, ↓ap_ifM, ↓ap_setM, ↓ap_asgM, ↓ap_parM, ↓ap_par3M, ↓ap_putM, ↓ap_putOwnM, ↓ap_putFldM, ↓ap_methM, ↓ap_lmM, ↓ap_appendOwnM, ↓ap_dpopM, ↓ap_dpop2M, ↓ap_chainM, ↓ap_isiM, ↓ap_sliceM, ↓ap_bdN, ↓ap_bdA, ↓ap_lam, startE, List.map_cons, List.map_nil, List.length_cons, List.length_nil, List.replicate, List.cons_append, List.nil_append, List.append_nil, List.set_cons_zero, List.set_cons_succ, List.getElem?_cons_zero, List.getElem?_cons_succ, T.own, Bool.false_and, Bool.true_and, Bool.not_true, Bool.not_false, Bool.and_false, Bool.and_true, reduceIte, Bool.false_eq_true, escs, esc, tgName, tgTup, tgEach, Nat.zero_add, Nat.reduceAdd, Nat.reduceSub, Nat.reduceLeDiff, Nat.reduceLT, Nat.zero_lt_succ, true_and, Nat.reduceEqDiff, line, e1, e2]
theorem isw_non {S : Sto} : F_is_word [.im .non] S = .ok (.im (.bl false)) S := by rfl
theorem isw_true {S : Sto} : F_is_word [.im (.bl true)] S = .ok (.im (.bl false)) S := by rfl
theorem isw_big {S : Sto} : F_is_word [.im (.int 2147483648)] S = .ok (.im (.bl false)) S := by rfl
theorem sel_heap : sel__law_error "InvalidHeap" = some ("heap" : Str) := by
  unfold sel__law_error
  rw [if_pos rfl]
theorem sel_word : sel__law_error "InvalidWord" = some ("word" : Str) := by
  unfold sel__law_error
  rw [if_neg (by decide +kernel), if_pos rfl]
end K71

namespace K71
open PySem PySem.Spec DL Giv
open L2 (Key atI ixN)
abbrev oddsM : M := (lstM (argsM [(tupM (argsM [(cst .non), (cst .non)])), (tupM (argsM [(appA (argsM [(slot true 12)]) listF), (cst (.int 3))])), (tupM (argsM [(slot false 12), (cst .non)])), (tupM (argsM [(slot false 12), (bin (cst (.int 2)) (cst (.int 31)) (DL.opI powC fun i j => i ^ j.toNat))])), (tupM (argsM [(slot false 12), (cst (.bl true))]))]))
abbrev callM5 : M := (escM (lamErrM sel__law_error ret__law_error (callM 2 F_freed_by (argsM [(bin (slot true 16) (cst (.int 0)) ixO), (bin (slot true 16) (cst (.int 1)) ixO)]))))
theorem errs_ok {S : Sto} {v0 v1 v2 v3 v4 v5 v6 v7 v8 v9 v10 v11 v13 v14 v15 v16 : Option T} : ∃ S', lcM (seqS oddsM) [16] (tgName 16) yesM callM5 [v0, v1, v2, v3, v4, v5, v6, v7, v8, v9, v10, v11, some (.im ringD), v13, v14, v15, v16] S = .ok (.vl [.str "heap", .str "heap", .str "word", .str "word", .str "word"]) S' := by
  have l1 : listF [.im ringD] S = .ok (.vl [.tup [.int 16, .int 2, .str "link", .tup [.int 5, .int 32]], .tup [.int 32, .int 1, .str "link", .tup [.int 7, .int 16]]]) S := rfl
  have hp : ∀ S, DL.opI powC (fun i j => i ^ j.toNat) (.im (.int 2)) (.im (.int 31)) S = .ok (.im (.int 2147483648)) S := fun S => opI_i (by decide)
  generalize hS1 : S ++ [MO.lst [.tup [.int 16, .int 2, .str "link", .tup [.int 5, .int 32]], .tup [.int 32, .int 1, .str "link", .tup [.int 7, .int 16]]]] = S1
  have hn : S1[S.length]? = some (.lst [.tup [.int 16, .int 2, .str "link", .tup [.int 5, .int 32]], .tup [.int 32, .int 1, .str "link", .tup [.int 7, .int 16]]]) := by rw [← hS1]; exact get_end
  have e0 : seqS oddsM [v0, v1, v2, v3, v4, v5, v6, v7, v8, v9, v10, v11, some (.im ringD), v13, v14, v15, v16] S = .ok (constG [.tup [.non, .non], .tup [.ref S.length, .int 3], .tup [ringD, .non], .tup [ringD, .int 2147483648], .tup [ringD, .bl true]], ([DL.D.tup [.non, .non], .tup [.ref S.length, .int 3], .tup [ringD, .non], .tup [ringD, .int 2147483648], .tup [ringD, .bl true]] : List DL.D).length) S1 := by
    simp only [ap_seqS, ↓ap_bind, ↓ap_bindS, ↓ap_seqM, ↓ap_skipM, ↓ap_un, ↓ap_bin, ↓ap_slot, ↓ap_cst, ↓ap_andM, ↓ap_orM, ↓ap_notM, ↓ap_iteM, ↓ap_argsN, ↓ap_argsC, ↓ap_tupM, ↓ap_lstM, ↓ap_escM, ↓ap_appA, ↓ap_callM, ↓ap_exprM, ↓ap_retM, ↓ap_retN, ↓ap_ifM, ↓ap_setM, ↓ap_asgM, ↓ap_parM, ↓ap_par3M, ↓ap_putM, ↓ap_putOwnM, ↓ap_putFldM, ↓ap_methM, ↓ap_lmM, ↓ap_appendOwnM, ↓ap_dpopM, ↓ap_dpop2M, ↓ap_chainM, ↓ap_isiM, ↓ap_sliceM, ↓ap_bdN, ↓ap_bdA, ↓ap_lam, startE, List.map_cons, List.map_nil, List.length_cons, List.length_nil, List.replicate, List.cons_append, List.nil_append, List.append_nil, List.set_cons_zero, List.set_cons_succ, List.getElem?_cons_zero, List.getElem?_cons_succ, T.own, Bool.false_and, Bool.true_and, Bool.not_true, Bool.not_false, Bool.and_false, Bool.and_true, reduceIte, Bool.false_eq_true, escs, esc, tgName, tgTup, tgEach, Nat.zero_add, Nat.reduceAdd, Nat.reduceSub, Nat.reduceLeDiff, Nat.reduceLT, Nat.zero_lt_succ, true_and, Nat.reduceEqDiff, line, l1, hp, hS1, walkOf]
  have a1 : F_freed_by [.im .non, .im .non] S1 = .exc ⟨"InvalidHeap", []⟩ S1 := heap_no (ty := "NoneType") rfl (by decide)
  have a2 : F_freed_by [.im (.ref S.length), .im (.int 3)] S1 = .exc ⟨"InvalidHeap", []⟩ S1 := heap_no (ty := "list") (by show (match S1[S.length]? with | some (.lst _) => some "list" | some (.dic _) => some "dict" | some (.fdic _) => some "dict" | _ => none) = _; rw [hn]) (by decide)
  have a3 : F_freed_by [.im ringD, .im .non] S1 = .exc ⟨"InvalidWord", []⟩ S1 := word_no isw_non
  have a4 : F_freed_by [.im ringD, .im (.int 2147483648)] S1 = .exc ⟨"InvalidWord", []⟩ S1 := word_no isw_big
  have a5 : F_freed_by [.im ringD, .im (.bl true)] S1 = .exc ⟨"InvalidWord", []⟩ S1 := word_no isw_true
  refine ⟨S1, ?_⟩
  rw [lcM_const e0]
  have st : ∀ {d : DL.D} {x y : DL.D} {c r : Str} {ρ : Ev}, ρ[16]? = some (some (.im (.tup [x, y]))) → F_freed_by [.im x, .im y] S1 = .exc ⟨c, []⟩ S1 → sel__law_error c = some r → callM5 ρ S1 = .ok (.im (.str r)) S1 := fun {d x y c r ρ} h16 hf hs => by
    simp only [↓ap_bind, ↓ap_bindS, ↓ap_seqM, ↓ap_skipM, ↓ap_un, ↓ap_bin, ↓ap_slot, ↓ap_cst, ↓ap_andM, ↓ap_orM, ↓ap_notM, ↓ap_iteM, ↓ap_argsN, ↓ap_argsC, ↓ap_tupM, ↓ap_lstM, ↓ap_escM, ↓ap_appA, ↓ap_callM, ↓ap_exprM, ↓ap_retM, ↓ap_retN, ↓ap_ifM, ↓ap_setM, ↓ap_asgM, ↓ap_parM, ↓ap_par3M, ↓ap_putM, ↓ap_putOwnM, ↓ap_putFldM, ↓ap_methM, ↓ap_lmM, ↓ap_appendOwnM, ↓ap_dpopM, ↓ap_dpop2M, ↓ap_chainM, ↓ap_isiM, ↓ap_sliceM, ↓ap_bdN, ↓ap_bdA, ↓ap_lam, startE, List.map_cons, List.map_nil, List.length_cons, List.length_nil, List.replicate, List.cons_append, List.nil_append, List.append_nil, List.set_cons_zero, List.set_cons_succ, List.getElem?_cons_zero, List.getElem?_cons_succ, T.own, Bool.false_and, Bool.true_and, Bool.not_true, Bool.not_false, Bool.and_false, Bool.and_true, reduceIte, Bool.false_eq_true, escs, esc, tgName, tgTup, tgEach, Nat.zero_add, Nat.reduceAdd, Nat.reduceSub, Nat.reduceLeDiff, Nat.reduceLT, Nat.zero_lt_succ, true_and, Nat.reduceEqDiff, line, h16, ix_tup, atI_0, atI_1, hf, hs]
  simp only [lcR, tgName, wipeE, List.set_cons_succ, List.set_cons_zero, yesM]
  rw [st (d := .non) rfl a1 sel_heap]
  simp only
  rw [st (d := .non) rfl a2 sel_heap]
  simp only
  rw [st (d := .non) rfl a3 sel_word]
  simp only
  rw [st (d := .non) rfl a4 sel_word]
  simp only
  rw [st (d := .non) rfl a5 sel_word]
  rfl
theorem base_fact : ∀ w ∈ baseW, w % 4 ≠ 0 ∧ -2147483648 ≤ w ∧ w ≤ 2147483647 := by decide
theorem base_four {w : Int} (h : w ∈ baseW) (h4 : w % 4 = 0) : False := (base_fact w h).1 h4
/-- the law -/
theorem law_true {ns : List Int} {t : T} {S : Sto} (hl : ns.length ≤ 63) (hin : LawIn ns t S) : ∃ S', F_law [t] S = .ok (.im (.bl true)) S' := by
  have hown : ∃ d, t = .im d := by rcases hin with ⟨rfl, _⟩ | ⟨rfl, _⟩ <;> exact ⟨_, rfl⟩
  obtain ⟨td, rfl⟩ := hown
  obtain ⟨x, y, e1, hx⟩ := cup_ok hin (by omega)
  have hcup : (S ++ [cupO x y])[S.length]? = some (cupO x y) := get_end
  obtain ⟨r, x1, y1, e2, r1, r2, hx1⟩ := roll_ok (m := 8) hcup hx (by omega)
  have hcup2 := get_same (o' := cupO x1 y1) hcup
  obtain ⟨n, rfl⟩ := Int.eq_ofNat_of_zero_le r1
  have en : (2 + (n : Int)) = ((2 + n : Nat) : Int) := by omega
  obtain ⟨S3, c, ps, sh, fl, rf, rg, held, e3, sd⟩ := shared_ok (n := 2 + n) hcup2 hx1 (by omega)
  generalize hS2 : (S ++ [cupO x y]).set S.length (cupO x1 y1) = S2 at e2 hcup2 e3 sd
  have hac : ∀ p ∈ ps, S.length ≠ rf p ∧ S.length ≠ rg p := fun p hp => by
    have h1 := sd.hi p hp
    have h2 := sd.lo
    have h3 : S2.length = S.length + 1 := by rw [← hS2]; simp
    omega
  obtain ⟨S4, e4, k4⟩ := count_ok (held := held) sd.r sd.hc sd.nd sd.flen (by have := sd.len; omega) (by have := sd.hlen; omega)
  generalize hcn : (fun p => ((held ++ ps.flatMap fl).count p : Int)) = cn at e4
  have hcnp : ∀ p, cn p = ((held ++ ps.flatMap fl).count p : Nat) := fun p => by rw [← hcn]
  have hc4 := k4 _ _ sd.hc
  have hc5 : (S4 ++ [MO.dic (cntKV ps cn)])[c]? = some (.dic (cellKV ps rf)) := get_app hc4
  have e5 : lockM 2 (lcM (dictS (slot true 2)) [15] (tgName 15) yesM (tupM (argsM [(slot false 15), (cst (.int 1))]))) [some (.im td), some (.im (.ref S.length)), some (.im (.ref c)), some (.im (.tup (held.map D.int))), none, none, none, none, none, none, none, none, none, none, none, none, none] (S4 ++ [MO.dic (cntKV ps cn)]) = .ok (.vl (ps.map fun p => .tup [.int p, .int 1])) (S4 ++ [MO.dic (cntKV ps cn)]) := by
    refine lock_lc (i := 2) rfl hc5 (by have := sd.len; omega) fun p hp => ⟨_, rfl, ?_⟩
    simp only [↓ap_bind, ↓ap_bindS, ↓ap_seqM, ↓ap_skipM, ↓ap_un, ↓ap_bin, ↓ap_slot, ↓ap_cst, ↓ap_andM, ↓ap_orM, ↓ap_notM, ↓ap_iteM, ↓ap_argsN, ↓ap_argsC, ↓ap_tupM, ↓ap_lstM, ↓ap_escM, ↓ap_appA, ↓ap_callM, ↓ap_exprM, ↓ap_retM, ↓ap_retN, ↓ap_ifM, ↓ap_setM, ↓ap_asgM, ↓ap_parM, ↓ap_par3M, ↓ap_putM, ↓ap_putOwnM, ↓ap_putFldM, ↓ap_methM, ↓ap_lmM, ↓ap_appendOwnM, ↓ap_dpopM, ↓ap_dpop2M, ↓ap_chainM, ↓ap_isiM, ↓ap_sliceM, ↓ap_bdN, ↓ap_bdA, ↓ap_lam, startE, List.map_cons, List.map_nil, List.length_cons, List.length_nil, List.replicate, List.cons_append, List.nil_append, List.append_nil, List.set_cons_zero, List.set_cons_succ, List.getElem?_cons_zero, List.getElem?_cons_succ, T.own, Bool.false_and, Bool.true_and, Bool.not_true, Bool.not_false, Bool.and_false, Bool.and_true, reduceIte, Bool.false_eq_true, escs, esc, tgName, tgTup, tgEach, Nat.zero_add, Nat.reduceAdd, Nat.reduceSub, Nat.reduceLeDiff, Nat.reduceLT, Nat.zero_lt_succ, true_and, Nat.reduceEqDiff, line, wipeE]
  have d5 : dictF [.vl (ps.map fun p => .tup [.int p, .int 1])] (S4 ++ [MO.dic (cntKV ps cn)]) = .ok (.vd (cntKV ps fun _ => 1)) (S4 ++ [MO.dic (cntKV ps cn)]) := dictF_map sd.nd
  have l5 : (S4 ++ [MO.dic (cntKV ps cn)]).length = S4.length + 1 := by simp
  generalize hS6 : S4 ++ [MO.dic (cntKV ps cn)] ++ [MO.dic (cntKV ps fun _ => 1)] = S6
  have k6 : Kp S3 S6 := by rw [← hS6]; exact (k4.trans .app).trans .app
  obtain ⟨x3, y3, hcup3, hx3⟩ := sd.g.cup
  have W6 : Wd S6 S.length c S4.length (S4.length + 1) ps sh fl rf rg cn := ⟨⟨x3, y3, k6 _ _ hcup3, hx3⟩, k6 _ _ sd.hc, by rw [← hS6]; exact get_app get_end, by rw [← hS6, ← l5]; exact get_end, sd.r.kp k6, hac⟩
  have hpsr : ∀ w ∈ ps, -2147483648 ≤ w ∧ w ≤ 2147483647 := fun w hw => by have := spots_fact w (sd.spot w hw); omega
  have hflw : ∀ p ∈ ps, ∀ w ∈ fl p, w ∈ baseW ∨ w ∈ ps := fun p hp w hw => by
    obtain ⟨u, v, e⟩ := List.append_of_mem hp
    rcases sd.dag u p v e w hw with h | h
    · exact .inl h
    · exact .inr (by rw [e]; simp [h])
  have hfr : ∀ p ∈ ps, ∀ w ∈ fl p, -2147483648 ≤ w ∧ w ≤ 2147483647 := fun p hp w hw => by
    rcases hflw p hp w hw with h | h
    · exact (base_fact w h).2
    · exact hpsr w h
  have hheld : ∀ w ∈ held, -2147483648 ≤ w ∧ w ≤ 2147483647 := fun w hw => by
    rcases sd.hw w hw with h | h
    · exact (base_fact w h).2
    · exact hpsr w h
  have hfml : (ps.flatMap fl).length = 2 * ps.length := by
    have : ∀ l : List Int, (∀ q ∈ l, (fl q).length = 2) → (l.flatMap fl).length = 2 * l.length := by
      intro l
      induction l with
      | nil => intro _; rfl
      | cons q l ih => intro h; rw [List.flatMap_cons, List.length_append, ih fun q hq => h q (by simp [hq]), h q (by simp), List.length_cons]; omega
    exact this ps sd.flen
  have hcn1 : ∀ p ∈ ps, 1 ≤ cn p ∧ cn p ≤ 1000000 := fun p hp => by
    have h1 : (held ++ ps.flatMap fl).count p ≤ (held ++ ps.flatMap fl).length := List.count_le_length
    rw [List.length_append, hfml] at h1
    have h2 := sd.hlen
    have h3 := sd.len
    have h4 : 0 < (held ++ ps.flatMap fl).count p := by
      rw [List.count_append]
      by_cases h0 : (ps.flatMap fl).count p = 0
      · have := List.count_pos_iff.mpr (sd.root p hp h0)
        omega
      · omega
    rw [hcnp]
    omega
  have hlen := sd.len
  have f1 : Fit (sortI ps) cn sh fl := fit_of sd.nd (by omega) sd.spot hcn1 sd.shp sd.flen hfr
  have f2 : Fit (sortI ps) (fun _ => 1) sh fl := fit_of sd.nd (by omega) sd.spot (fun _ _ => by omega) sd.shp sd.flen hfr
  obtain ⟨S7, w6, w7, e7, W7⟩ := turn_loop (t := .im td) (held := held) sd.nd sd.len sd.hlen f1 f2 sd.shp (fun p hp => by rw [sd.flen p hp]; omega) (fun w hw => by
    rcases List.mem_append.mp hw with h | h
    · exact hpsr w h
    · exact hheld w h) (rangeD 0 3) S6 none none W6
  have er : range1S (cst (.int 3)) [some (.im td), some (.im (.ref S.length)), some (.im (.ref c)), some (.im (.tup (held.map D.int))), some (.im (.ref S4.length)), some (.im (.ref (S4.length + 1))), none, none, none, none, none, none, none, none, none, none, none] S6 = .ok (constG (rangeD 0 3), (rangeD 0 3).length) S6 := range1S_ok (j := 3) rfl (by omega)
  have eT := (forM_const er).trans e7
  have e8 := heap_ok W7.r W7.hc W7.hb (fun p hp => by unfold cntKV; rw [getK_map, if_pos hp]) (by omega)
  -- the held words
  generalize hm0 : (fun p => if p ∈ ps then some (cn p) else none : Mp) = m0
  have hm0p : ∀ p, m0 p = if p ∈ ps then some (cn p) else none := fun p => by rw [← hm0]
  have hh0 : here ps m0 = ps := by
    unfold here
    rw [List.filter_eq_self]
    intro p hp
    rw [hm0p, if_pos hp]
    rfl
  have htot : ∀ p, tot fl ps m0 none held p = (held ++ ps.flatMap fl).count p := fun p => by
    unfold tot
    rw [hh0, List.filter_eq_self.mpr (by simp), List.count_append]
  have x0 : Ex fl ps m0 none held [] := by
    refine ⟨fun p h4 => ?_, fun p => ?_, List.nodup_nil, fun p hp => ?_⟩
    · rw [htot, hm0p]
      by_cases hp : p ∈ ps
      · rw [if_pos hp]
        exact hcnp p
      · rw [if_neg hp]
        simp only
        rw [List.count_eq_zero]
        intro h
        rcases List.mem_append.mp h with h | h
        · rcases sd.hw p h with h | h
          · exact base_four h h4
          · exact hp h
        · obtain ⟨q, hq, hw⟩ := List.mem_flatMap.mp h
          rcases hflw q hq p hw with h | h
          · exact base_four h h4
          · exact hp h
    · rw [hm0p]
      constructor
      · intro h; cases h
      · intro h
        by_cases hp : p ∈ ps
        · rw [if_pos hp] at h
          have := (hcn1 p hp).1
          have h : cn p = 0 := Option.some.inj h
          omega
        · rw [if_neg hp] at h; cases h
    · rw [hm0p] at hp
      by_cases h : p ∈ ps
      · exact ⟨by have := spots_fact p (sd.spot p h); omega, h⟩
      · rw [if_neg h] at hp; cases hp
  have hH : heapT (sortI ps) cn sh fl = heapT (sortI (here ps m0)) (fun p => (m0 p).getD 0) sh fl := by
    rw [hh0]
    apply heapT_congr
    intro p hp
    rw [hm0p, if_pos (mem_sortI.mp hp)]
    rfl
  obtain ⟨S9, m', fr', w7', w10, e9, x9, pm9, k9⟩ := held_back (S := S7) (v0 := some (.im td)) (v1 := some (.im (.ref S.length))) (v2 := some (.im (.ref c))) (v3 := some (.im (.tup (held.map D.int)))) (v4 := some (.im (.ref S4.length))) (v5 := some (.im (.ref (S4.length + 1)))) (v6 := w6) (v11 := none) (v12 := none) (v13 := none) (v14 := none) (v15 := none) (v16 := none) sd.nd sd.len sd.spot sd.shp sd.flen hfr held m0 [] w7 none x0 (by rw [hh0]; exact List.Perm.refl _) hheld sd.hlen
  have hnone := none_left x9 (fun u p v e w hw h4 => by
    rcases sd.dag u p v e w hw with h | h
    · exact (base_four h h4).elim
    · exact h) sd.nd
  have hz : here ps m' = [] := by
    unfold here
    rw [List.filter_eq_nil_iff]
    intro p _
    rw [hnone p]
    simp
  rw [hz] at e9 pm9
  rw [List.append_nil] at pm9
  have hD0 : heapT (sortI []) (fun p => (m' p).getD 0) sh fl = .tup [] := rfl
  rw [hD0, List.map_nil] at e9
  rw [hH] at e8
  have es : seqS (slot false 3) [some (.im td), some (.im (.ref S.length)), some (.im (.ref c)), some (.im (.tup (held.map D.int))), some (.im (.ref S4.length)), some (.im (.ref (S4.length + 1))), w6, w7, some (.im (heapT (sortI (here ps m0)) (fun p => (m0 p).getD 0) sh fl)), some (.im (.tup [])), none, none, none, none, none, none, none] S7 = .ok (constG (held.map D.int), (held.map D.int).length) S7 := by
    simp only [ap_seqS, ↓ap_bind, ↓ap_bindS, ↓ap_seqM, ↓ap_skipM, ↓ap_un, ↓ap_bin, ↓ap_slot, ↓ap_cst, ↓ap_andM, ↓ap_orM, ↓ap_notM, ↓ap_iteM, ↓ap_argsN, ↓ap_argsC, ↓ap_tupM, ↓ap_lstM, ↓ap_escM, ↓ap_appA, ↓ap_callM, ↓ap_exprM, ↓ap_retM, ↓ap_retN, ↓ap_ifM, ↓ap_setM, ↓ap_asgM, ↓ap_parM, ↓ap_par3M, ↓ap_putM, ↓ap_putOwnM, ↓ap_putFldM, ↓ap_methM, ↓ap_lmM, ↓ap_appendOwnM, ↓ap_dpopM, ↓ap_dpop2M, ↓ap_chainM, ↓ap_isiM, ↓ap_sliceM, ↓ap_bdN, ↓ap_bdA, ↓ap_lam, startE, List.map_cons, List.map_nil, List.length_cons, List.length_nil, List.replicate, List.cons_append, List.nil_append, List.append_nil, List.set_cons_zero, List.set_cons_succ, List.getElem?_cons_zero, List.getElem?_cons_succ, T.own, Bool.false_and, Bool.true_and, Bool.not_true, Bool.not_false, Bool.and_false, Bool.and_true, reduceIte, Bool.false_eq_true, escs, esc, tgName, tgTup, tgEach, Nat.zero_add, Nat.reduceAdd, Nat.reduceSub, Nat.reduceLeDiff, Nat.reduceLT, Nat.zero_lt_succ, true_and, Nat.reduceEqDiff, line, walkOf]
  have eH := (forM_const es).trans e9
  have q1 : sortedF [.im (.tup (fr'.map D.int))] S9 = .ok (.vl ((sortI ps).map D.int)) S9 := by
    have h1 := pm9.length_eq
    have : sortedF [.im (.tup (fr'.map D.int))] S9 = (match intsOf (fr'.map D.int) with
      | some ns => if ns.length < 64 then .ok (.vl ((sortI ns).map D.int)) S9 else .stuck
      | none => .stuck) := rfl
    rw [this, intsOf_map]
    simp only
    rw [if_pos (by omega), sortI_congr pm9]
  have q2 : sortedF [.im (.ref c)] S9 = .ok (.vl ((sortI ps).map D.int)) S9 := sorted_dic (k9 _ _ W7.hc) (by omega)
  have q3 : neO (.vl ((sortI ps).map D.int)) (.vl ((sortI ps).map D.int)) S9 = .ok (.im (.bl false)) S9 := by
    unfold neO
    rw [eq_self_vl (plD_ints _)]
    rfl
  have q4 : neO (.im (.tup [])) (.im (.tup [])) S9 = .ok (.im (.bl false)) S9 := neO_self rfl
  -- the written heaps
  obtain ⟨T1, c1, _⟩ := Row.freed (S := S9) tree_ok (by omega) o1
  obtain ⟨T2, c2, _⟩ := Row.freed (S := T1) tree2_ok (by omega) o2
  obtain ⟨T3, c3, _⟩ := Row.freed (S := T2) tree_ok (by omega) o3
  obtain ⟨T4, c4, _⟩ := Row.freed (S := T3) ring_ok (by omega) o4
  obtain ⟨T5, c5, _⟩ := Row.freed (S := T4) ring_ok (by omega) o5
  obtain ⟨T6, c6, _⟩ := Row.freed (S := T5) twice_ok (by omega) o6
  obtain ⟨T7, c7, _⟩ := Row.freed (S := T6) tree_ok (by omega) o7
  obtain ⟨T8, c8, _⟩ := Row.freed (S := T7) none_ok (by omega) o8
  rw [tree_eq] at c1 c3 c7
  rw [tree2_eq] at c2
  rw [ring_eq] at c4 c5
  rw [twice_eq] at c6
  rw [none_eq] at c8
  obtain ⟨T9, c9⟩ := errs_ok (S := T8) (v0 := some (.im td)) (v1 := some (.im (.ref S.length))) (v2 := some (.im (.ref c))) (v3 := some (.im (.tup (held.map D.int)))) (v4 := some (.im (.ref S4.length))) (v5 := some (.im (.ref (S4.length + 1)))) (v6 := w6) (v7 := w7') (v8 := some (.im (.tup []))) (v9 := some (.im (.tup (fr'.map D.int)))) (v10 := w10) (v11 := some (.im treeD)) (v13 := some (.im twiceD)) (v14 := none) (v15 := none) (v16 := none)
  have n1 : neO (.im (.tup [.str "freed", .tup [.int 16, .int 56, .int 72, .int 40], .tup []])) (.im (.tup [.str "freed", .tup [.int 16, .int 56, .int 72, .int 40], .tup []])) T1 = .ok (.im (.bl false)) T1 := neO_self (by decide +kernel)
  have n2 : neO (.im (.tup [.str "broken", .int 40])) (.im (.tup [.str "broken", .int 40])) T2 = .ok (.im (.bl false)) T2 := neO_self (by decide +kernel)
  have n3 : neO (.im (.tup [.str "freed", .tup [], tree3D])) (.im (.tup [.str "freed", .tup [], tree3D])) T3 = .ok (.im (.bl false)) T3 := neO_self (by decide +kernel)
  have n4 : neO (.im (.tup [.str "freed", .tup [], ring2D])) (.im (.tup [.str "freed", .tup [], ring2D])) T4 = .ok (.im (.bl false)) T4 := neO_self (by decide +kernel)
  have n5 : neO (.im (.tup [.str "freed", .tup [.int 32], ring3D])) (.im (.tup [.str "freed", .tup [.int 32], ring3D])) T5 = .ok (.im (.bl false)) T5 := neO_self (by decide +kernel)
  have n6 : neO (.im (.tup [.str "broken", .int 16])) (.im (.tup [.str "broken", .int 16])) T6 = .ok (.im (.bl false)) T6 := neO_self (by decide +kernel)
  have n7 : neO (.im (.tup [.str "freed", .tup [], treeD])) (.im (.tup [.str "freed", .tup [], treeD])) T7 = .ok (.im (.bl false)) T7 := neO_self (by decide +kernel)
  have n8 : neO (.im (.tup [.str "broken", .int 0])) (.im (.tup [.str "broken", .int 0])) T8 = .ok (.im (.bl false)) T8 := neO_self (by decide +kernel)
  have s1 : ∀ ρ S, slO (.im treeD) none (some 1) ρ S = .ok (.im (.tup [.tup [.int 16, .int 1, .str "fun", .tup [.int 56, .int 40, .int 7, .int 56]]])) S := fun _ _ => rfl
  have s2 : ∀ ρ S, slO (.im treeD) (some 2) none ρ S = .ok (.im (.tup [.tup [.int 56, .int 2, .str "pair", .tup [.int 72, .int 40]], .tup [.int 72, .int 1, .str "link", .tup [.int 3, .int 2]]])) S := fun _ _ => rfl
  have s3 : ∀ ρ S, slO (.im treeD) none (some 2) ρ S = .ok (.im (.tup [.tup [.int 16, .int 1, .str "fun", .tup [.int 56, .int 40, .int 7, .int 56]], .tup [.int 40, .int 2, .str "link", .tup [.int 5, .int 2]]])) S := fun _ _ => rfl
  have s4 : ∀ ρ S, slO (.im treeD) (some 3) none ρ S = .ok (.im (.tup [.tup [.int 72, .int 1, .str "link", .tup [.int 3, .int 2]]])) S := fun _ _ => rfl
  have a1 : ∀ S, addO (.im (.tup [.tup [.int 16, .int 1, .str "fun", .tup [.int 56, .int 40, .int 7, .int 56]]])) (.im (.tup [.tup [.int 56, .int 2, .str "pair", .tup [.int 72, .int 40]], .tup [.int 72, .int 1, .str "link", .tup [.int 3, .int 2]]])) S = .ok (.im tree2D) S := fun _ => rfl
  have a2 : ∀ S, addO (.im (.tup [.tup [.int 16, .int 1, .str "fun", .tup [.int 56, .int 40, .int 7, .int 56]], .tup [.int 40, .int 2, .str "link", .tup [.int 5, .int 2]]])) (.im (.tup [.tup [.int 56, .int 1, .str "pair", .tup [.int 72, .int 40]]])) S = .ok (.im (.tup [.tup [.int 16, .int 1, .str "fun", .tup [.int 56, .int 40, .int 7, .int 56]], .tup [.int 40, .int 2, .str "link", .tup [.int 5, .int 2]], .tup [.int 56, .int 1, .str "pair", .tup [.int 72, .int 40]]])) S := fun _ => rfl
  have a3 : ∀ S, addO (.im (.tup [.tup [.int 16, .int 1, .str "fun", .tup [.int 56, .int 40, .int 7, .int 56]], .tup [.int 40, .int 2, .str "link", .tup [.int 5, .int 2]], .tup [.int 56, .int 1, .str "pair", .tup [.int 72, .int 40]]])) (.im (.tup [.tup [.int 72, .int 1, .str "link", .tup [.int 3, .int 2]]])) S = .ok (.im tree3D) S := fun _ => rfl
  have w1 : DL.eqO (.vl [.str "heap", .str "heap", .str "word", .str "word", .str "word"]) (.vl [.str "heap", .str "heap", .str "word", .str "word", .str "word"]) T9 = .ok (.im (.bl true)) T9 := by
    unfold DL.eqO
    rw [eq_self_vl (by decide +kernel)]
  have ec : MO.lst [.int x, .int y] = cupO x y := rfl
  refine ⟨T9, ?_⟩
  rw [F_law, ap_runF, m_law]
  simp only [↓ap_bind, ↓ap_bindS, ↓ap_seqM, ↓ap_skipM, ↓ap_un, ↓ap_bin, ↓ap_slot, ↓ap_cst, ↓ap_andM, ↓ap_orM, ↓ap_notM, ↓ap_iteM, ↓ap_argsN, ↓ap_argsC, ↓ap_tupM, ↓ap_lstM, ↓ap_escM, ↓ap_appA, ↓ap_callM, ↓ap_exprM, ↓ap_retM, ↓ap_retN, ↓ap_ifM, ↓ap_setM, ↓ap_asgM, ↓ap_parM, ↓ap_par3M, ↓ap_putM, ↓ap_putOwnM, ↓ap_putFldM, ↓ap_methM, ↓ap_lmM, ↓ap_appendOwnM, ↓ap_dpopM, ↓ap_dpop2M, ↓ap_chainM, ↓ap_isiM, ↓ap_sliceM, ↓ap_bdN, ↓ap_bdA, ↓ap_lam, startE, List.map_cons, List.map_nil, List.length_cons, List.length_nil, List.replicate, List.cons_append, List.nil_append, List.append_nil, List.set_cons_zero, List.set_cons_succ, List.getElem?_cons_zero, List.getElem?_cons_succ, T.own, Bool.false_and, Bool.true_and, Bool.not_true, Bool.not_false, Bool.and_false, Bool.and_true, reduceIte, Bool.false_eq_true, escs, esc, tgName, tgTup, tgEach, Nat.zero_add, Nat.reduceAdd, Nat.reduceSub, Nat.reduceLeDiff, Nat.reduceLT, Nat.zero_lt_succ, true_and, Nat.reduceEqDiff, line, e1, ec, e2, addO_i, en, e3, e4, e5, d5, l5, hS6, eT, e8, eH, q1, q2, q3, q4, c1, c2, c3, c4, c5, c6, c7, c8, n1, n2, n3, n4, n5, n6, n7, n8, s1, s2, s3, s4, a1, a2, a3, c9, w1]
end K71

namespace K71
open PySem PySem.Spec L2 DL
def fn : List He.DefD := [
  ⟨("is_whole", none), "is_whole", "is_whole", defArgs (top 5), defBody (top 5), defScope (top 5), [], []⟩,
  ⟨("is_tuple_of", none), "is_tuple_of", "is_tuple_of", defArgs (top 6), defBody (top 6), defScope (top 6), [], []⟩,
  ⟨("is_word", none), "is_word", "is_word", defArgs (top 9), defBody (top 9), defScope (top 9), [], []⟩,
  ⟨("points", none), "points", "points", defArgs (top 16), defBody (top 16), defScope (top 16), [], []⟩,
  ⟨("fits_fields", none), "fits_fields", "fits_fields", defArgs (top 17), defBody (top 17), defScope (top 17), [], []⟩,
  ⟨("fits_cell", none), "fits_cell", "fits_cell", defArgs (top 18), defBody (top 18), defScope (top 18), [], []⟩,
  ⟨("end_of", none), "end_of", "end_of", defArgs (top 19), defBody (top 19), defScope (top 19), [], []⟩,
  ⟨("fits_heap", none), "fits_heap", "fits_heap", defArgs (top 20), defBody (top 20), defScope (top 20), [], []⟩,
  ⟨("cells_by", none), "cells_by", "cells_by", defArgs (top 21), defBody (top 21), defScope (top 21), [], []⟩,
  ⟨("need_heap", none), "need_heap", "need_heap", defArgs (top 22), defBody (top 22), defScope (top 22), [], []⟩,
  ⟨("need_words", none), "need_words", "need_words", defArgs (top 24), defBody (top 24), defScope (top 24), [], []⟩,
  ⟨("Drop", some "__init__"), "__init__", "Drop.__init__", defArgs (inClass (top 26) 0), defBody (inClass (top 26) 0), defScope (inClass (top 26) 0), [], []⟩,
  ⟨("Drop", some "less"), "less", "Drop.less", defArgs (inClass (top 26) 1), defBody (inClass (top 26) 1), defScope (inClass (top 26) 1), [], []⟩,
  ⟨("Drop", some "first_broken"), "first_broken", "Drop.first_broken", defArgs (inClass (top 26) 2), defBody (inClass (top 26) 2), defScope (inClass (top 26) 2), [], []⟩,
  ⟨("Drop", some "heap"), "heap", "Drop.heap", defArgs (inClass (top 26) 3), defBody (inClass (top 26) 3), defScope (inClass (top 26) 3), [], []⟩,
  ⟨("freed_in", none), "freed_in", "freed_in", defArgs (top 27), defBody (top 27), defScope (top 27), [], []⟩,
  ⟨("freed_by", none), "freed_by", "freed_by", defArgs (top 28), defBody (top 28), defScope (top 28), [], []⟩,
  ⟨("_law_cup", none), "_law_cup", "_law_cup", defArgs (top 30), defBody (top 30), defScope (top 30), [], []⟩,
  ⟨("_law_roll", none), "_law_roll", "_law_roll", defArgs (top 31), defBody (top 31), defScope (top 31), [], []⟩,
  ⟨("_law_some", none), "_law_some", "_law_some", defArgs (top 32), defBody (top 32), defScope (top 32), [], []⟩,
  ⟨("_law_spots", none), "_law_spots", "_law_spots", defArgs (top 33), defBody (top 33), defScope (top 33), [], []⟩,
  ⟨("_law_count", none), "_law_count", "_law_count", defArgs (top 34), defBody (top 34), defScope (top 34), [], []⟩,
  ⟨("_law_heap", none), "_law_heap", "_law_heap", defArgs (top 35), defBody (top 35), defScope (top 35), [], []⟩,
  ⟨("_law_shared", none), "_law_shared", "_law_shared", defArgs (top 36), defBody (top 36), defScope (top 36), [], []⟩,
  ⟨("_law_drop", none), "_law_drop", "_law_drop", defArgs (top 37), defBody (top 37), defScope (top 37), [], []⟩,
  ⟨("_law_error", none), "_law_error", "_law_error", defArgs (top 38), defBody (top 38), defScope (top 38), [], []⟩,
  ⟨("_law_right", none), "_law_right", "_law_right", defArgs (top 39), defBody (top 39), defScope (top 39), [], []⟩,
  ⟨("law", none), "law", "law", defArgs (top 40), defBody (top 40), defScope (top 40), [], []⟩]
def fa : List He.Fa := [.free "ValueError", .free "abs", .free "all", .free "bool", .free "dict", .free "int", .free "isinstance", .free "len", .free "list", .free "range", .free "sorted", .free "str", .free "tuple", .free "zip", .glo "WIDTHS", .glo "Drop", .noat "Drop" "cells", .noat "Drop" "row", .glo "InvalidHeap", .exc "InvalidHeap", .glo "InvalidWord", .exc "InvalidWord", .glo "is_whole", .glo "is_tuple_of", .glo "is_word", .glo "points", .glo "fits_fields", .glo "fits_cell", .glo "end_of", .glo "fits_heap", .glo "cells_by", .glo "need_heap", .glo "need_words", .meth "Drop" "less", .meth "Drop" "first_broken", .meth "Drop" "heap", .glo "freed_in", .glo "freed_by", .glo "_law_cup", .glo "_law_roll", .glo "_law_some", .glo "_law_spots", .glo "_law_count", .glo "_law_heap", .glo "_law_shared", .glo "_law_drop", .glo "_law_error", .glo "_law_right", .glo "law", .cls "Drop", .mkr "Drop", .glo "ForgeError", .exm "InvalidHeap" "ForgeError" true, .exm "InvalidHeap" "InvalidHeap" true, .exm "InvalidHeap" "InvalidWord" false, .exm "InvalidWord" "ForgeError" true, .exm "InvalidWord" "InvalidHeap" false, .exm "InvalidWord" "InvalidWord" true]
def ts : List He.Tab := [(fun K => He.ga K "WIDTHS", ["fun", "link", "pair"])]
def tf : List He.Defn := [("law", none)]
def lo0 : List PySem.Str := ["ForgeError", "InvalidHeap", "InvalidWord", "is_whole", "is_tuple_of", "HALF", "is_word", "LEAST", "CELLS", "HOLDERS", "FIELDS", "WIDTHS"]
def lo1 : List PySem.Str := ["points", "fits_fields", "fits_cell", "end_of", "fits_heap", "cells_by", "need_heap", "need_words", "Drop", "freed_in", "freed_by", "_law_cup"]
def lo2 : List PySem.Str := ["_law_roll", "_law_some", "_law_spots", "_law_count", "_law_heap", "_law_shared", "_law_drop", "_law_error", "_law_right"]
def lo : List PySem.Str := lo0 ++ lo1 ++ lo2
def exs (K : PySem.W.Frag) : List Bool := [conD K "HALF" c_HALF, conD K "LEAST" c_LEAST, conD K "CELLS" c_CELLS, conD K "HOLDERS" c_HOLDERS, conD K "FIELDS" c_FIELDS, tabD K "WIDTHS" ["fun", "link", "pair"] [(.tup [(.int 2), (.int 80)]), (.tup [(.int 2), (.int 2)]), (.tup [(.int 2), (.int 2)])]]
def ex (K : PySem.W.Frag) : Bool := (exs K).all id
abbrev R : PySem.W.OpenRow := PySem.W.OpenLaw.row PySem.Challenge.rw_cellforge_k71_whole_words_given_back
abbrev hk : PySem.W.Hook := He.hookX 6 fa fn ts tf ex
def ob (s : PySem.W.SharedT) : He.AlX := He.obsX 6 fa fn ts tf ex (HandSHeadRun.getT s)
theorem ob_eq (s : PySem.W.SharedT) : ob s = hk.obs s.abs := He.obsX_eq (HandSHeadRun.getT_eq s)
theorem run (w : World) : HandSHeadRun.RunEq R (PySem.W.view R.prog [40]) hk ob 8000 lo w := by
  refine PySem.W.byRow2 "special-get-raises" (P := fun w => HandSHeadRun.RunEq R (PySem.W.view R.prog [40]) hk ob 8000 lo w) ?_ ?_ w
  · intro w os
    kernel_rfl
  · intro w os
    kernel_rfl
theorem exAt {w : World} {h : Heap} {K : PySem.W.Frag} (c : He.SaysX fa fn ts tf ex w h K) (i : Nat) {b : Bool} (hb : (exs K)[i]? = some b) : b = true := List.all_eq_true.mp c.more b (List.mem_of_getElem? hb)
def Tof (K : PySem.W.Frag) : List (Addr × Str) := [((He.cT K ("law", none)).2, (("law" : Str) ++ ".<locals>.") ++ "<lambda>")]
theorem fx {w : World} {h : Heap} {K : PySem.W.Frag} {mg : Str → Option Value} (KX : K.In h) (G : h.Ns mainGlobals mg) (c : He.SaysX fa fn ts tf ex w h K) : Fx w K mg (mkCn w K mg (Tof K)) where
  hK := rfl
  hw := rfl
  hmg := rfl
  n_ValueError := He.free_ok KX G (c.t.d.fact 0 (f := .free "ValueError") rfl)
  n_abs := He.free_ok KX G (c.t.d.fact 1 (f := .free "abs") rfl)
  n_all := He.free_ok KX G (c.t.d.fact 2 (f := .free "all") rfl)
  n_bool := He.free_ok KX G (c.t.d.fact 3 (f := .free "bool") rfl)
  n_dict := He.free_ok KX G (c.t.d.fact 4 (f := .free "dict") rfl)
  n_int := He.free_ok KX G (c.t.d.fact 5 (f := .free "int") rfl)
  n_isinstance := He.free_ok KX G (c.t.d.fact 6 (f := .free "isinstance") rfl)
  n_len := He.free_ok KX G (c.t.d.fact 7 (f := .free "len") rfl)
  n_list := He.free_ok KX G (c.t.d.fact 8 (f := .free "list") rfl)
  n_range := He.free_ok KX G (c.t.d.fact 9 (f := .free "range") rfl)
  n_sorted := He.free_ok KX G (c.t.d.fact 10 (f := .free "sorted") rfl)
  n_str := He.free_ok KX G (c.t.d.fact 11 (f := .free "str") rfl)
  n_tuple := He.free_ok KX G (c.t.d.fact 12 (f := .free "tuple") rfl)
  n_zip := He.free_ok KX G (c.t.d.fact 13 (f := .free "zip") rfl)
  k_HALF := conD_ok rfl KX G (exAt c 0 (by rfl))
  k_LEAST := conD_ok rfl KX G (exAt c 1 (by rfl))
  k_CELLS := conD_ok rfl KX G (exAt c 2 (by rfl))
  k_HOLDERS := conD_ok rfl KX G (exAt c 3 (by rfl))
  k_FIELDS := conD_ok rfl KX G (exAt c 4 (by rfl))
  k_WIDTHS := tabD_ok rfl rfl (He.glo_ok KX G (c.t.d.fact 14 (f := .glo "WIDTHS") rfl)) (c.t.tab 0 (t := (fun K => He.ga K "WIDTHS", ["fun", "link", "pair"])) rfl) (exAt c 5 (by rfl))
  at_Drop_cells := attr_of (He.glo_ok KX G (c.t.d.fact 15 (f := .glo "Drop") rfl)) (He.noat_ok (c.t.d.fact 16 (f := .noat "Drop" "cells") rfl))
  at_Drop_row := attr_of (He.glo_ok KX G (c.t.d.fact 15 (f := .glo "Drop") rfl)) (He.noat_ok (c.t.d.fact 17 (f := .noat "Drop" "row") rfl))
  x_InvalidHeap := exc_of (He.glo_ok KX G (c.t.d.fact 18 (f := .glo "InvalidHeap") rfl)) (c.t.d.fact 19 (f := .exc "InvalidHeap") rfl)
  x_InvalidWord := exc_of (He.glo_ok KX G (c.t.d.fact 20 (f := .glo "InvalidWord") rfl)) (c.t.d.fact 21 (f := .exc "InvalidWord") rfl)
  g_is_whole := He.glo_ok KX G (c.t.d.fact 22 (f := .glo "is_whole") rfl)
  d_is_whole := c.t.d.def_ 0 rfl
  g_is_tuple_of := He.glo_ok KX G (c.t.d.fact 23 (f := .glo "is_tuple_of") rfl)
  d_is_tuple_of := c.t.d.def_ 1 rfl
  g_is_word := He.glo_ok KX G (c.t.d.fact 24 (f := .glo "is_word") rfl)
  d_is_word := c.t.d.def_ 2 rfl
  g_points := He.glo_ok KX G (c.t.d.fact 25 (f := .glo "points") rfl)
  d_points := c.t.d.def_ 3 rfl
  g_fits_fields := He.glo_ok KX G (c.t.d.fact 26 (f := .glo "fits_fields") rfl)
  d_fits_fields := c.t.d.def_ 4 rfl
  g_fits_cell := He.glo_ok KX G (c.t.d.fact 27 (f := .glo "fits_cell") rfl)
  d_fits_cell := c.t.d.def_ 5 rfl
  g_end_of := He.glo_ok KX G (c.t.d.fact 28 (f := .glo "end_of") rfl)
  d_end_of := c.t.d.def_ 6 rfl
  g_fits_heap := He.glo_ok KX G (c.t.d.fact 29 (f := .glo "fits_heap") rfl)
  d_fits_heap := c.t.d.def_ 7 rfl
  g_cells_by := He.glo_ok KX G (c.t.d.fact 30 (f := .glo "cells_by") rfl)
  d_cells_by := c.t.d.def_ 8 rfl
  g_need_heap := He.glo_ok KX G (c.t.d.fact 31 (f := .glo "need_heap") rfl)
  d_need_heap := c.t.d.def_ 9 rfl
  g_need_words := He.glo_ok KX G (c.t.d.fact 32 (f := .glo "need_words") rfl)
  d_need_words := c.t.d.def_ 10 rfl
  d_Drop_init := c.t.d.def_ 11 rfl
  d_Drop_less := c.t.d.def_ 12 rfl
  m_Drop_less := He.meth_ok (c.t.d.fact 33 (f := .meth "Drop" "less") rfl)
  d_Drop_first_broken := c.t.d.def_ 13 rfl
  m_Drop_first_broken := He.meth_ok (c.t.d.fact 34 (f := .meth "Drop" "first_broken") rfl)
  d_Drop_heap := c.t.d.def_ 14 rfl
  m_Drop_heap := He.meth_ok (c.t.d.fact 35 (f := .meth "Drop" "heap") rfl)
  g_freed_in := He.glo_ok KX G (c.t.d.fact 36 (f := .glo "freed_in") rfl)
  d_freed_in := c.t.d.def_ 15 rfl
  g_freed_by := He.glo_ok KX G (c.t.d.fact 37 (f := .glo "freed_by") rfl)
  d_freed_by := c.t.d.def_ 16 rfl
  g__law_cup := He.glo_ok KX G (c.t.d.fact 38 (f := .glo "_law_cup") rfl)
  d__law_cup := c.t.d.def_ 17 rfl
  g__law_roll := He.glo_ok KX G (c.t.d.fact 39 (f := .glo "_law_roll") rfl)
  d__law_roll := c.t.d.def_ 18 rfl
  g__law_some := He.glo_ok KX G (c.t.d.fact 40 (f := .glo "_law_some") rfl)
  d__law_some := c.t.d.def_ 19 rfl
  g__law_spots := He.glo_ok KX G (c.t.d.fact 41 (f := .glo "_law_spots") rfl)
  d__law_spots := c.t.d.def_ 20 rfl
  g__law_count := He.glo_ok KX G (c.t.d.fact 42 (f := .glo "_law_count") rfl)
  d__law_count := c.t.d.def_ 21 rfl
  g__law_heap := He.glo_ok KX G (c.t.d.fact 43 (f := .glo "_law_heap") rfl)
  d__law_heap := c.t.d.def_ 22 rfl
  g__law_shared := He.glo_ok KX G (c.t.d.fact 44 (f := .glo "_law_shared") rfl)
  d__law_shared := c.t.d.def_ 23 rfl
  g__law_drop := He.glo_ok KX G (c.t.d.fact 45 (f := .glo "_law_drop") rfl)
  d__law_drop := c.t.d.def_ 24 rfl
  g__law_error := He.glo_ok KX G (c.t.d.fact 46 (f := .glo "_law_error") rfl)
  d__law_error := c.t.d.def_ 25 rfl
  g__law_right := He.glo_ok KX G (c.t.d.fact 47 (f := .glo "_law_right") rfl)
  d__law_right := c.t.d.def_ 26 rfl
  g_law := He.glo_ok KX G (c.t.d.fact 48 (f := .glo "law") rfl)
  d_law := c.t.d.def_ 27 rfl
  gc_Drop := He.glo_ok KX G (c.t.d.fact 15 (f := .glo "Drop") rfl)
  cl_Drop := He.cls_ok (c.t.d.fact 49 (f := .cls "Drop") rfl)
  mk_Drop := He.mkr_ok (c.t.d.fact 50 (f := .mkr "Drop") rfl)
  gx_ForgeError := He.glo_ok KX G (c.t.d.fact 51 (f := .glo "ForgeError") rfl)
  gx_InvalidHeap := He.glo_ok KX G (c.t.d.fact 18 (f := .glo "InvalidHeap") rfl)
  gx_InvalidWord := He.glo_ok KX G (c.t.d.fact 20 (f := .glo "InvalidWord") rfl)
  e_InvalidHeap_ForgeError := He.exm_ok (c.t.d.fact 52 (f := .exm "InvalidHeap" "ForgeError" true) rfl)
  e_InvalidHeap_InvalidHeap := He.exm_ok (c.t.d.fact 53 (f := .exm "InvalidHeap" "InvalidHeap" true) rfl)
  e_InvalidHeap_InvalidWord := He.exm_ok (c.t.d.fact 54 (f := .exm "InvalidHeap" "InvalidWord" false) rfl)
  e_InvalidWord_ForgeError := He.exm_ok (c.t.d.fact 55 (f := .exm "InvalidWord" "ForgeError" true) rfl)
  e_InvalidWord_InvalidHeap := He.exm_ok (c.t.d.fact 56 (f := .exm "InvalidWord" "InvalidHeap" false) rfl)
  e_InvalidWord_InvalidWord := He.exm_ok (c.t.d.fact 57 (f := .exm "InvalidWord" "InvalidWord" true) rfl)
  hT := rfl
/-- the defs keep their promises -/
theorem law_ok {w : World} {K : PySem.W.Frag} {mg : Str → Option Value} {base : Heap} {C : Cn} (L : Fx w K mg C) (TB : LamX.TabB base mg (He.cT K ("law", none)).1 (He.cT K ("law", none)).2) {fd : FuncData} (F : FunD K "law" "law" (defArgs (top 40)) (defBody (top 40)) (defScope (top 40)) [] [] (He.fAd K ("law", none)) fd) : FnOk P w K mg base (L2.CX P w) 12 (He.fAd K ("law", none)) fd ["script"] (spF C 1 F_law) := by
  have f_is_whole := p_is_whole (base := base) L 
  have f_is_tuple_of := p_is_tuple_of (base := base) L 
  have f_is_word := p_is_word (base := base) L f_is_whole
  have f_points := p_points (base := base) L 
  have f_fits_fields := p_fits_fields (base := base) L f_is_tuple_of f_is_word
  have f_fits_cell := p_fits_cell (base := base) L f_fits_fields f_is_tuple_of f_is_whole f_points
  have f_end_of := p_end_of (base := base) L 
  have f_fits_heap := p_fits_heap (base := base) L f_end_of f_fits_cell f_is_tuple_of
  have f_cells_by := p_cells_by (base := base) L 
  have f_need_heap := p_need_heap (base := base) L f_fits_heap
  have f_need_words := p_need_words (base := base) L f_is_word
  have f_Drop_init := p_Drop_init (base := base) L f_cells_by
  have f_Drop_less := p_Drop_less (base := base) L 
  have f_Drop_first_broken := p_Drop_first_broken (base := base) L f_Drop_less f_points
  have f_Drop_heap := p_Drop_heap (base := base) L 
  have f_freed_in := p_freed_in (base := base) L f_Drop_init f_Drop_first_broken f_Drop_heap
  have f_freed_by := p_freed_by (base := base) L f_freed_in f_need_heap f_need_words
  have f__law_cup := p__law_cup (base := base) L 
  have f__law_roll := p__law_roll (base := base) L 
  have f__law_some := p__law_some (base := base) L f__law_roll
  have f__law_spots := p__law_spots (base := base) L f__law_roll
  have f__law_count := p__law_count (base := base) L 
  have f__law_heap := p__law_heap (base := base) L 
  have f__law_shared := p__law_shared (base := base) L f__law_count f__law_roll f__law_some f__law_spots
  have f__law_drop := p__law_drop (base := base) L 
  have f__law_right := p__law_right (base := base) L f__law_drop f__law_heap f_freed_by
  exact p_law L f__law_count f__law_cup f__law_heap f__law_right f__law_roll f__law_shared f__law_some f_freed_by TB F
end K71
open PySem PySem.W PySem.Calls PyProof.Rows
/-- from the plain law -/
theorem K71.holds_of (PL : ∀ (ns : List Int) (t : DL.T) (S : DL.Sto), ns.length ≤ 63 → DL.LawIn ns t S → ∃ S', K71.F_law [t] S = .ok (.im (.bl true)) S') : PySem.Challenge.rw_cellforge_k71_whole_words_given_back.Holds := by
  w_on; o_law
  refine HandSHeadRun.head_any (r := OpenLaw.row PySem.Challenge.rw_cellforge_k71_whole_words_given_back) (q := view (OpenLaw.row PySem.Challenge.rw_cellforge_k71_whole_words_given_back).prog [40]) (H := K71.hk) (ob := K71.ob) (M := 8000) (loose := K71.lo) (d := HandSHeadRun.topDef (OpenLaw.row PySem.Challenge.rw_cellforge_k71_whole_words_given_back).prog 40) (kwd := []) K71.ob_eq
    (by kernel_rfl) (fun s => by kernel_rfl) K71.run (by kernel_rfl) (by kernel_rfl) (by kernel_rfl) (by rfl) (by first | assumption | decide +kernel) (by decide +kernel) ⟨rfl, rfl, rfl, rfl, rfl, by decide +kernel⟩ ?hw ?hc
  case hw => w_witness2
  case hc =>
    refine LamX.walk_ofTsE (l := PySem.Challenge.rw_cellforge_k71_whole_words_given_back) (n := 63) (k := 12) (x := "script") (CX := fun w => L2.CX K71.P w) rfl (by decide) (by kernel_rfl) ⟨rfl, by decide, by decide⟩ ?F (fun w H s e s' h => DL.cx_no h)
    intro w mg fa h Y G hmg0
    obtain ⟨K, KX, c⟩ := Y
    have L := K71.fx KX G c
    have hmg : mg ("law" : PySem.Str) = some (.ref fa) := by
      have e : (HandSHeadRun.topDef (OpenLaw.row PySem.Challenge.rw_cellforge_k71_whole_words_given_back).prog 40).name = ("law" : PySem.Str) := by kernel_rfl
      rw [← e]
      exact hmg0
    have e := hmg.symm.trans L.g_law
    cases e
    obtain ⟨fd, F⟩ := L.d_law
    have b := L2.FunD.bindsA (ps := ["script"]) F fun _ _ _ _ _ _ us hl => match us, hl with | [_], _ => rfl
    refine ⟨K, KX, fd, [He.cT K ("law", none)], DL.spF (DL.mkCn w K mg (K71.Tof K)) 1 K71.F_law, ?_, ?_, ?_, fun s v => b s [v] rfl, fun H a ns hl _ hT hS => DL.law_sp (fun t S => PL ns t S hl) (Nat.le_trans hl (by decide)) ?_ hS, fun base KB GB TB => ?_⟩
    · intro p hp
      rw [List.mem_singleton.mp hp]
      exact c.empty _ List.mem_cons_self
    · intro p hp
      rw [List.mem_singleton.mp hp]
      exact c.out _ List.mem_cons_self
    · intro p hp
      rw [List.mem_singleton.mp hp]
      exact PySem.W.codeHd_of_K KX (c.hd _ List.mem_cons_self)
    · intro p hp
      rw [List.mem_singleton.mp hp]
      exact hT (He.cT K ("law", none)) List.mem_cons_self
    · exact K71.law_ok L (TB _ List.mem_cons_self) F

theorem PySem.Challenge.cw_cellforge_k71_whole_words_given_back_holds : PySem.Challenge.rw_cellforge_k71_whole_words_given_back.Holds := by
  exact K71.holds_of fun ns t S hl h => K71.law_true hl h
