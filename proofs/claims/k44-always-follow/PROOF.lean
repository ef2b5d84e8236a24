import PyProof.Rows.All
import HandS.ForMost
import HandS.HeadHook2
import HandS.Flow
import HandS.Small
import HandS.TupAny
import HandS.Wide
import HandS.Deep
import HandS.IsInst
import HandS.WideBits
import HandS.Style
import HandS.WordsDict
import HandS.Property
import HandS.Defaults
import HandS.Sort
import HandS.More
import HandS.Walk
import HandS.Zip
import KE.SortData
import PyProof.ReprRoads
import KE.GoesEnum
import HandS.Conv
import KE.GoesMore
import KE.KDictZip
import HandS.Head0
import HandS.Head1
import HandS.Head2
import HandS.HeadEnd
import HandS.HeadHook1
import HandS.Keys
import KE.DatumMoreOrd
import PySem.Challenge.RW_seatchains_k44_trips_that_always_follow
set_option Elab.async false
set_option linter.all false
set_option maxRecDepth 100000
set_option maxHeartbeats 1000000
namespace T
open PySem L2
/-! ### data as trees, a heap of what changes -/
inductive D where
  | non | bl (b : Bool) | int (i : Int) | str (x : Str) | tup (xs : List D) | scr (ns : List Int) | ref (a : Addr) | ty (n : String) | glo (x : Str)
inductive O where
  | lst (xs : List D) | dct (kvs : List (Key × D)) | ins (c : Str) (fs : List (Str × D))
abbrev TH := Addr → Option O
def put (h : TH) (a : Addr) (o : O) : TH := fun b => if b = a then some o else h b
theorem put_same {h : TH} {a : Addr} {o : O} : put h a o a = some o := if_pos rfl
theorem put_ne {h : TH} {a b : Addr} {o : O} (n : b ≠ a) : put h a o b = h b := if_neg n
theorem put_put {h : TH} {a : Addr} {o u : O} : put (put h a o) a u = put h a u := by funext b; unfold put; split <;> rfl
/-- what stood in h stands in h' -/
def Sub (h h' : TH) : Prop := ∀ a o, h a = some o → h' a = some o
theorem Sub.refl (h : TH) : Sub h h := fun _ _ e => e
theorem Sub.trans {h h1 h2 : TH} (a : Sub h h1) (b : Sub h1 h2) : Sub h h2 := fun c o e => b c o (a c o e)
theorem Sub.put {h : TH} {p : Addr} {o : O} (n : h p = none) : Sub h (put h p o) := fun a u e => by
  rw [put_ne (fun z => by rw [z, n] at e; cases e)]; exact e
theorem Sub.put' {h h' : TH} {p : Addr} {o : O} (s : Sub h h') (n : h p = none) : Sub h (T.put h' p o) := fun a u e => by
  rw [put_ne (fun z => by rw [z, n] at e; cases e)]; exact s a u e
theorem Sub.none {h h' : TH} {p : Addr} (s : Sub h h') (n : h' p = none) : h p = none := by
  cases e : h p with
  | none => rfl
  | some o => rw [s p o e] at n; cases n
theorem ne_new {h : TH} {a p : Addr} {o : O} (e : h a = some o) (n : h p = none) : a ≠ p := fun z => by rw [z, n] at e; cases e
theorem Sub.upd {h h' : TH} {a : Addr} {o : O} (s : Sub h h') : Sub (T.put h a o) (T.put h' a o) := fun b u e => by
  by_cases z : b = a
  · subst z; rw [put_same] at e ⊢; exact e
  · rw [put_ne z] at e ⊢; exact s b u e
section
variable (K : PySem.W.Frag) (mg : Str → Option Value)
/-- a list that nobody writes: locked, or the module's -/
def Fz (H : Hp) (a : Addr) (vs : List V) : Prop := (∃ o, H a = some (.frz o (.lst vs))) ∨
  ∃ (o : Obj) (its : Array Value) (n : Nat), K.lookup a = some o ∧ o.cls = .type "list" ∧ o.dict = none ∧ o.data = .seq its n ∧ its.size ≤ sizeLine ∧ Vals vs its.toList
mutual
def Rep (H : Hp) : D → V → Prop
  | .non, v => v = .non
  | .bl b, v => v = .bl b
  | .int i, v => v = .int i
  | .str x, v => v = .str x
  | .tup ds, v => ∃ a vs, v = .ref a ∧ SqT K H a vs ∧ Reps H ds vs
  | .scr ns, v => ∃ a, v = .ref a ∧ Fz K H a (ns.map V.int)
  | .ref a, v => v = .ref a
  | .ty n, v => v = .ty n
  | .glo x, v => ∃ a, v = .ref a ∧ mg x = some (.ref a)
def Reps (H : Hp) : List D → List V → Prop
  | [], vs => vs = []
  | d :: ds, vs => ∃ v r, vs = v :: r ∧ Rep H d v ∧ Reps H ds r
end
/-- tuples and locked lists are kept -/
structure TK (H H' : Hp) : Prop where
  tup : ∀ a vs, SqT K H a vs → SqT K H' a vs
  fz : ∀ a vs, Fz K H a vs → Fz K H' a vs
end
section
variable {K : PySem.W.Frag} {mg : Str → Option Value} {H H' H1 H2 : Hp}
theorem Fz.sq {a : Addr} {vs : List V} (f : Fz K H a vs) : SqL K H a vs := f.elim (fun ⟨o, e⟩ => .inl (.inr ⟨o, e⟩)) .inr
theorem TK.refl (H : Hp) : TK K H H := ⟨fun _ _ h => h, fun _ _ h => h⟩
theorem TK.trans (a : TK K H H1) (b : TK K H1 H2) : TK K H H2 := ⟨fun c v h => b.tup c v (a.tup c v h), fun c v h => b.fz c v (a.fz c v h)⟩
mutual
theorem Rep.tk (k : TK K H H') : ∀ {d : D} {v : V}, Rep K mg H d v → Rep K mg H' d v
  | .non, _, h => h
  | .bl _, _, h => h
  | .int _, _, h => h
  | .str _, _, h => h
  | .tup _, _, h => let ⟨a, vs, e, s, r⟩ := h; ⟨a, vs, e, k.tup a vs s, Reps.tk k r⟩
  | .scr _, _, h => let ⟨a, e, s⟩ := h; ⟨a, e, k.fz a _ s⟩
  | .ref _, _, h => h
  | .ty _, _, h => h
  | .glo _, _, h => h
theorem Reps.tk (k : TK K H H') : ∀ {ds : List D} {vs : List V}, Reps K mg H ds vs → Reps K mg H' ds vs
  | [], _, h => h
  | _ :: _, _, h => let ⟨v, r, e, a, b⟩ := h; ⟨v, r, e, Rep.tk k a, Reps.tk k b⟩
end
theorem Reps.nil : Reps K mg H [] [] := rfl
theorem Reps.cons {d : D} {ds : List D} {v : V} {vs : List V} (a : Rep K mg H d v) (b : Reps K mg H ds vs) : Reps K mg H (d :: ds) (v :: vs) := ⟨v, vs, rfl, a, b⟩
theorem Reps.length : ∀ {ds : List D} {vs : List V}, Reps K mg H ds vs → ds.length = vs.length
  | [], _, h => by cases h; rfl
  | _ :: _, _, h => by obtain ⟨v, r, rfl, _, b⟩ := h; simp [Reps.length b]
theorem Reps.get : ∀ {ds : List D} {vs : List V} {i : Nat} {d : D}, Reps K mg H ds vs → ds[i]? = some d → ∃ v, vs[i]? = some v ∧ Rep K mg H d v
  | [], _, _, _, _, e => by simp at e
  | d :: ds, _, 0, _, h, e => by
    obtain ⟨v, r, rfl, a, b⟩ := h
    simp at e; subst e; exact ⟨v, rfl, a⟩
  | d :: ds, _, i + 1, _, h, e => by
    obtain ⟨v, r, rfl, a, b⟩ := h
    obtain ⟨w, e1, e2⟩ := Reps.get (i := i) b (by simpa using e)
    exact ⟨w, by simpa using e1, e2⟩
theorem Reps.append : ∀ {ds es : List D} {vs us : List V}, Reps K mg H ds vs → Reps K mg H es us → Reps K mg H (ds ++ es) (vs ++ us)
  | [], _, _, _, h, q => by cases h; exact q
  | _ :: _, _, _, _, h, q => by obtain ⟨v, r, rfl, a, b⟩ := h; exact ⟨v, r ++ _, rfl, a, Reps.append b q⟩
theorem Reps.set : ∀ {ds : List D} {vs : List V} (i : Nat) {d : D} {v : V}, Reps K mg H ds vs → Rep K mg H d v → Reps K mg H (ds.set i d) (vs.set i v)
  | [], _, _, _, _, h, _ => by cases h; rfl
  | _ :: _, _, 0, _, _, h, q => by obtain ⟨v, r, rfl, a, b⟩ := h; exact ⟨_, r, rfl, q, b⟩
  | _ :: _, _, i + 1, _, _, h, q => by obtain ⟨v, r, rfl, a, b⟩ := h; exact ⟨_, _, rfl, a, Reps.set i b q⟩
theorem Reps.take : ∀ {ds : List D} {vs : List V} (n : Nat), Reps K mg H ds vs → Reps K mg H (ds.take n) (vs.take n)
  | _, _, 0, _ => rfl
  | [], _, n + 1, h => by cases h; rfl
  | _ :: _, _, n + 1, h => by obtain ⟨v, r, rfl, a, b⟩ := h; exact ⟨_, _, rfl, a, Reps.take n b⟩
theorem Reps.drop : ∀ {ds : List D} {vs : List V} (n : Nat), Reps K mg H ds vs → Reps K mg H (ds.drop n) (vs.drop n)
  | _, _, 0, h => h
  | [], _, n + 1, h => by cases h; rfl
  | _ :: _, _, n + 1, h => by obtain ⟨v, r, rfl, a, b⟩ := h; exact Reps.drop n b
theorem Reps.reverse : ∀ {ds : List D} {vs : List V}, Reps K mg H ds vs → Reps K mg H ds.reverse vs.reverse
  | [], _, h => by cases h; rfl
  | _ :: _, _, h => by
    obtain ⟨v, r, rfl, a, b⟩ := h
    rw [List.reverse_cons, List.reverse_cons]
    exact Reps.append (Reps.reverse b) (Reps.cons a .nil)
theorem Reps.ints : ∀ {ns : List Int} {vs : List V}, Reps K mg H (ns.map D.int) vs → vs = ns.map V.int
  | [], _, h => h
  | n :: ns, _, h => by
    obtain ⟨v, r, rfl, a, b⟩ := h
    rw [Reps.ints b, show v = V.int n from a]; rfl
theorem Reps.strs : ∀ {ns : List Str} {vs : List V}, Reps K mg H (ns.map D.str) vs → vs = ns.map V.str
  | [], _, h => h
  | n :: ns, _, h => by
    obtain ⟨v, r, rfl, a, b⟩ := h
    rw [Reps.strs b, show v = V.str n from a]; rfl
theorem Reps.bools : ∀ {ns : List Bool} {vs : List V}, Reps K mg H (ns.map D.bl) vs → vs = ns.map V.bl
  | [], _, h => h
  | n :: ns, _, h => by
    obtain ⟨v, r, rfl, a, b⟩ := h
    rw [Reps.bools b, show v = V.bl n from a]; rfl
theorem Reps.ofInts : ∀ (ns : List Int), Reps K mg H (ns.map D.int) (ns.map V.int)
  | [] => rfl
  | _ :: ns => ⟨_, _, rfl, rfl, Reps.ofInts ns⟩
theorem Reps.ofStrs : ∀ (ns : List Str), Reps K mg H (ns.map D.str) (ns.map V.str)
  | [] => rfl
  | _ :: ns => ⟨_, _, rfl, rfl, Reps.ofStrs ns⟩
abbrev FR (K : PySem.W.Frag) (mg : Str → Option Value) (H : Hp) (κ : Type) : List (κ × D) → List (κ × V) → Prop := Paired fun p q => p.1 = q.1 ∧ Rep K mg H p.2 q.2
theorem FR.tk {κ : Type} (k : TK K H H') {xs : List (κ × D)} {ys : List (κ × V)} (r : FR K mg H κ xs ys) : FR K mg H' κ xs ys := Paired.mapP r fun _ _ z => ⟨z.1, z.2.tk k⟩
end
/-- what stands at an address -/
def OR (K : PySem.W.Frag) (mg : Str → Option Value) (H : Hp) (a : Addr) : O → Prop
  | .lst ds => ∃ vs, H a = some (.lst vs) ∧ Reps K mg H ds vs
  | .dct kvs => ∃ ks, H a = some (.dK ks) ∧ FR K mg H Key kvs ks
  | .ins c fs => ∃ C dx gs, mg c = some (.ref C) ∧ H a = some (.ins C dx gs) ∧ FR K mg H Str fs gs
def HR (K : PySem.W.Frag) (mg : Str → Option Value) (h : TH) (H : Hp) : Prop := ∀ a o, h a = some o → OR K mg H a o
section
variable {K : PySem.W.Frag} {mg : Str → Option Value} {H H' H1 H2 : Hp} {h h' : TH} {a p : Addr} {o : O} {u : HO}
theorem OR.some_ (x : OR K mg H a o) : ∃ u, H a = some u := by
  cases o with
  | lst ds => obtain ⟨vs, e, _⟩ := x; exact ⟨_, e⟩
  | dct ds => obtain ⟨vs, e, _⟩ := x; exact ⟨_, e⟩
  | ins c fs => obtain ⟨C, dx, gs, _, e, _⟩ := x; exact ⟨_, e⟩
theorem OR.move (x : OR K mg H a o) (e : H' a = H a) (k : TK K H H') : OR K mg H' a o := by
  cases o with
  | lst ds => obtain ⟨vs, q, r⟩ := x; exact ⟨vs, e.trans q, r.tk k⟩
  | dct ds => obtain ⟨vs, q, r⟩ := x; exact ⟨vs, e.trans q, r.tk k⟩
  | ins c fs => obtain ⟨C, dx, gs, m, q, r⟩ := x; exact ⟨C, dx, gs, m, e.trans q, r.tk k⟩
theorem HR.none (r : HR K mg h H) (n : H p = Option.none) : h p = Option.none := by
  cases e : h p with
  | none => rfl
  | some o => obtain ⟨u, q⟩ := (r p o e).some_; rw [n] at q; cases q
theorem HR.sub (r : HR K mg h' H) (s : Sub h h') : HR K mg h H := fun a o e => r a o (s a o e)
theorem rd_new {b : Addr} {x : HO} (n : H p = Option.none) (r : Rd H b x) : Rd (upd H p u) b x := by
  rcases r with r | ⟨o, r⟩
  · exact .inl (by rw [upd_ne (ne_of_none r n)]; exact r)
  · exact .inr ⟨o, by rw [upd_ne (ne_of_none r n)]; exact r⟩
theorem TK.new (n : H p = Option.none) : TK K H (upd H p u) := by
  refine ⟨fun a vs q => ?_, fun a vs q => ?_⟩
  · rcases q with q | q
    · exact .inl (rd_new n q)
    · exact .inr q
  · rcases q with ⟨o, q⟩ | q
    · exact .inl ⟨o, by rw [upd_ne (ne_of_none q n)]; exact q⟩
    · exact .inr q
/-- a change at what is no tuple and not locked -/
theorem TK.mut {u0 : HO} (e : H p = some u0) (m : Mut (some u0)) : TK K H (upd H p u) := by
  have n1 : ∀ b o x, H b = some (.frz o x) → b ≠ p := fun b o x q z => by subst z; rw [q] at e; cases e; exact m
  refine ⟨fun a vs q => ?_, fun a vs q => ?_⟩
  · rcases q with (q | ⟨o, q⟩) | q
    · refine .inl (.inl ?_)
      rw [upd_ne (fun z => ?_)]; exact q
      subst z; rw [q] at e; cases e; exact m
    · exact .inl (.inr ⟨o, by rw [upd_ne (n1 _ _ _ q)]; exact q⟩)
    · exact .inr q
  · rcases q with ⟨o, q⟩ | q
    · exact .inl ⟨o, by rw [upd_ne (n1 _ _ _ q)]; exact q⟩
    · exact .inr q
theorem HR.upd (r : HR K mg h H) (k : TK K H (L2.upd H p u)) (x : OR K mg (L2.upd H p u) p o) : HR K mg (put h p o) (L2.upd H p u) := fun b w e => by
  by_cases z : b = p
  · subst z; rw [put_same] at e; cases e; exact x
  · rw [put_ne z] at e
    exact (r b w e).move (upd_ne z) k
/-- an object that the trees do not tell of -/
theorem HR.new (r : HR K mg h H) (n : H p = Option.none) : HR K mg h (L2.upd H p u) := fun b w e => by
  have z : b ≠ p := fun z => by subst z; rw [r.none n] at e; cases e
  exact (r b w e).move (upd_ne z) (TK.new n)
end
/-! ### slots -/
abbrev TS0 := List (Option D)
def SR (K : PySem.W.Frag) (mg : Str → Option Value) (H : Hp) (ds : TS0) (σ : St) : Prop :=
  ds.length = σ.length ∧ ∀ (i : Nat) (d : D), ds[i]? = some (some d) → ∃ v, σ[i]? = some (some v) ∧ Rep K mg H d v
theorem SR.tk {K : PySem.W.Frag} {mg : Str → Option Value} {H H' : Hp} {ds : TS0} {σ : St} (k : TK K H H') (r : SR K mg H ds σ) : SR K mg H' ds σ :=
  ⟨r.1, fun i d e => let ⟨v, a, b⟩ := r.2 i d e; ⟨v, a, b.tk k⟩⟩
theorem SR.set {K : PySem.W.Frag} {mg : Str → Option Value} {H : Hp} {ds : TS0} {σ : St} {d : D} {v : V} (i : Nat) (r : SR K mg H ds σ) (q : Rep K mg H d v) : SR K mg H (ds.set i (some d)) (σ.set i (some v)) := by
  refine ⟨by simp [r.1], fun j e he => ?_⟩
  by_cases z : i = j
  · subst z
    by_cases l : i < ds.length
    · rw [List.getElem?_set_self l] at he
      rw [List.getElem?_set_self (by rw [← r.1]; exact l)]
      cases he; exact ⟨v, rfl, q⟩
    · rw [List.getElem?_eq_none (by simpa using l)] at he; cases he
  · rw [List.getElem?_set_ne z] at he ⊢
    exact r.2 j e he
def wipeT (ds : TS0) : List Nat → TS0
  | [] => ds
  | v :: vs => (wipeT ds vs).set v none
theorem SR.wipe {K : PySem.W.Frag} {mg : Str → Option Value} {H : Hp} {ds : TS0} {σ : St} (r : SR K mg H ds σ) : ∀ vs : List Nat, SR K mg H (wipeT ds vs) (L2.wipe σ vs)
  | [] => r
  | v :: vs => by
    have ih := SR.wipe r vs
    refine ⟨by simp [wipeT, L2.wipe, ih.1], fun j e he => ?_⟩
    show ∃ w, ((L2.wipe σ vs).set v none)[j]? = some (some w) ∧ _
    have he : ((wipeT ds vs).set v none)[j]? = some (some e) := he
    by_cases z : v = j
    · subst z
      by_cases l : v < (wipeT ds vs).length
      · rw [List.getElem?_set_self l] at he; cases he
      · rw [List.getElem?_eq_none (by simpa using l)] at he; cases he
    · rw [List.getElem?_set_ne z] at he ⊢
      exact ih.2 j e he
/-! ### readings over trees -/
abbrev TQ := D → TH → Prop
abbrev TrE := TS0 → TH → TQ → Prop
abbrev TrT := TS0 → TH → (Bool → TH → Prop) → Prop
abbrev TrA := TS0 → TH → (List D → TH → Prop) → Prop
structure TEnds where
  nx : TS0 → TH → Prop
  rt : TQ
  bk : TS0 → TH → Prop := fun _ _ => False
  ct : TS0 → TH → Prop := fun _ _ => False
abbrev TrS := TEnds → TS0 → TH → Prop
section
variable (K : PySem.W.Frag) (mg : Str → Option Value)
/-- what is wanted of a value by trees -/
def Lift (H : Hp) (P : TQ) (Q : VK) : Prop := ∀ d h v H', P d h → HR K mg h H' → TK K H H' → Rep K mg H' d v → Q v H'
def LiftA (H : Hp) (P : List D → TH → Prop) (Q : List V → Hp → Prop) : Prop := ∀ d h v H', P d h → HR K mg h H' → TK K H H' → Reps K mg H' d v → Q v H'
def LiftT (H : Hp) (P : Bool → TH → Prop) (Q : Bool → Hp → Prop) : Prop := ∀ b h H', P b h → HR K mg h H' → TK K H H' → Q b H'
def LiftS (H : Hp) (P : TS0 → TH → Prop) (Q : St → Hp → Prop) : Prop := ∀ ds h σ H', P ds h → SR K mg H' ds σ → HR K mg h H' → TK K H H' → Q σ H'
def lE (t : TrE) : TE := fun σ H Q => ∃ ds h P, SR K mg H ds σ ∧ HR K mg h H ∧ t ds h P ∧ Lift K mg H P Q
def lA (t : TrA) : TA := fun σ H Q => ∃ ds h P, SR K mg H ds σ ∧ HR K mg h H ∧ t ds h P ∧ LiftA K mg H P Q
def lT (t : TrT) : TT := fun σ H Q => ∃ ds h P, SR K mg H ds σ ∧ HR K mg h H ∧ t ds h P ∧ LiftT K mg H P Q
def lS (t : TrS) : TS := fun De σ H => ∃ ds h, ∃ P : TEnds, SR K mg H ds σ ∧ HR K mg h H ∧ t P ds h ∧ LiftS K mg H P.nx De.nx ∧ Lift K mg H P.rt De.rt ∧ LiftS K mg H P.bk De.bk ∧ LiftS K mg H P.ct De.ct
abbrev R2T := D → D → TH → TQ → Prop
def l2 (r : R2T) : R2 := fun x y H Q => ∃ a b h P, Rep K mg H a x ∧ Rep K mg H b y ∧ HR K mg h H ∧ r a b h P ∧ Lift K mg H P Q
abbrev R1T := D → TH → TQ → Prop
def l1 (r : R1T) : V → Hp → VK → Prop := fun x H Q => ∃ a h P, Rep K mg H a x ∧ HR K mg h H ∧ r a h P ∧ Lift K mg H P Q
abbrev RAT := List D → TH → TQ → Prop
def lR (r : RAT) : List V → Hp → VK → Prop := fun xs H Q => ∃ ds h P, Reps K mg H ds xs ∧ HR K mg h H ∧ r ds h P ∧ Lift K mg H P Q
end
section
variable {K : PySem.W.Frag} {mg : Str → Option Value} {H H1 : Hp} {P : TQ} {Q : VK}
theorem Lift.tk (k : TK K H H1) (l : Lift K mg H P Q) : Lift K mg H1 P Q := fun d h v H' a b c e => l d h v H' a b (k.trans c) e
theorem LiftA.tk {P : List D → TH → Prop} {Q : List V → Hp → Prop} (k : TK K H H1) (l : LiftA K mg H P Q) : LiftA K mg H1 P Q := fun d h v H' a b c e => l d h v H' a b (k.trans c) e
theorem LiftT.tk {P : Bool → TH → Prop} {Q : Bool → Hp → Prop} (k : TK K H H1) (l : LiftT K mg H P Q) : LiftT K mg H1 P Q := fun d h H' a b c => l d h H' a b (k.trans c)
theorem LiftS.tk {P : TS0 → TH → Prop} {Q : St → Hp → Prop} (k : TK K H H1) (l : LiftS K mg H P Q) : LiftS K mg H1 P Q := fun d h σ H' a b c e => l d h σ H' a b c (k.trans e)
theorem Lift.here {d : D} {h : TH} {v : V} (l : Lift K mg H P Q) (p : P d h) (r : HR K mg h H) (q : Rep K mg H d v) : Q v H := l d h v H p r (TK.refl H) q
/-- a new object that the trees tell of -/
theorem Lift.alloc {h : TH} {p : Addr} {o : O} {u : HO} (l : Lift K mg H P Q) (r : HR K mg h H) (n : H p = none) (q : P (.ref p) (put h p o)) (x : OR K mg (upd H p u) p o) : Q (.ref p) (upd H p u) :=
  l _ _ _ _ q (r.upd (TK.new n) x) (TK.new n) rfl
/-- a new tuple -/
theorem Lift.tup {h : TH} {p : Addr} {ds : List D} {vs : List V} (l : Lift K mg H P Q) (r : HR K mg h H) (n : H p = none) (q : P (.tup ds) h) (x : Reps K mg H ds vs) : Q (.ref p) (upd H p (.tup vs)) :=
  l _ _ _ _ q (r.new n) (TK.new n) ⟨p, vs, rfl, SqT.of upd_same, x.tk (TK.new n)⟩
end
/-! ### the judgements -/
abbrev TPE (X : Cx) (e : Expr) (t : TrE) : Prop := PE X e (lE X.K X.mg t)
abbrev TPT (X : Cx) (e : Expr) (t : TrT) : Prop := PT X e (lT X.K X.mg t)
abbrev TPA (X : Cx) (es : List Expr) (t : TrA) : Prop := PA X es (lA X.K X.mg t)
abbrev TPS (X : Cx) (st : Stmt) (t : TrS) : Prop := PS X st (lS X.K X.mg t)
abbrev TPSs (X : Cx) (st : List Stmt) (t : TrS) : Prop := PSs X st (lS X.K X.mg t)
theorem PE_weak {X : Cx} {e : Expr} {t t' : TE} (h : PE X e t) (w : ∀ σ H Q, t' σ H Q → t σ H Q) : PE X e t' := ⟨fun pins s σ H Q I q => h.run pins s σ H Q I (w σ H Q q)⟩
theorem PT_weak {X : Cx} {e : Expr} {t t' : TT} (h : PT X e t) (w : ∀ σ H Q, t' σ H Q → t σ H Q) : PT X e t' := ⟨fun pins s σ H Q I q => h.run pins s σ H Q I (w σ H Q q)⟩
theorem PW_weak {X : Cx} {e : Expr} {t t' : TT} (h : PW X e t) (w : ∀ σ H Q, t' σ H Q → t σ H Q) : PW X e t' := ⟨fun wh pins s σ H Q I q => h.run wh pins s σ H Q I (w σ H Q q)⟩
theorem PA_weak {X : Cx} {e : List Expr} {t t' : TA} (h : PA X e t) (w : ∀ σ H Q, t' σ H Q → t σ H Q) : PA X e t' := ⟨fun pos pins s σ H Q I q => h.run pos pins s σ H Q I (w σ H Q q)⟩
theorem PS_weak {X : Cx} {e : Stmt} {t t' : TS} (h : PS X e t) (w : ∀ De σ H, t' De σ H → t De σ H) : PS X e t' := ⟨fun pins s σ H De I q => h.run pins s σ H De I (w De σ H q)⟩
theorem PSs_weak {X : Cx} {e : List Stmt} {t t' : TS} (h : PSs X e t) (w : ∀ De σ H, t' De σ H → t De σ H) : PSs X e t' := ⟨fun pins s σ H De I q => h.run pins s σ H De I (w De σ H q)⟩
theorem OpR_weak {X : Cx} {f : Value → Value → Sem Value} {r r' : R2} (h : OpR X f r) (w : ∀ x y H Q, r' x y H Q → r x y H Q) : OpR X f r' := fun pins s σ H x y v u Q I a b q => h pins s σ H x y v u Q I a b (w x y H Q q)
theorem CallR_weak {X : Cx} {f : Value} {r r' : List V → Hp → VK → Prop} (h : CallR X f r) (w : ∀ x H Q, r' x H Q → r x H Q) : CallR X f r' := fun pins s σ H x v Q I a q => h pins s σ H x v Q I a (w x H Q q)
end T
set_option Elab.async false
set_option linter.all false
set_option maxRecDepth 100000
set_option maxHeartbeats 1000000
namespace T
open PySem L2
section
variable {X : Cx} {a b c e : Expr} {es : List Expr} {ta tb tc : TrE} {pos : Pos}
/-! ### names, constants -/
def bVar (i : Nat) : TrE := fun ds h P => match ds[i]? with
  | some (some d) => P d h
  | _ => False
theorem t_var (i : Nat) {x : Str} {pos : Pos} (hN : X.N[i]? = some x := by rfl) (hv : Vis X.env.scope x := by first | exact Or.inl rfl | exact Or.inr (Or.inl rfl) | exact Or.inr (Or.inr rfl)) (hd : (x == ("__debug__" : Str)) = false := by decide)
    (hcd : (x == ("__classdict__" : Str)) = false := by decide) : TPE X (.Name x pos) (bVar i) := by
  refine PE_weak (pe_var hN hv hd hcd) ?_
  rintro σ H Q ⟨ds, h, P, sr, hr, t, l⟩
  unfold bVar at t
  cases q : ds[i]? with
  | none => rw [q] at t; exact t.elim
  | some o =>
    cases o with
    | none => rw [q] at t; exact t.elim
    | some d =>
      rw [q] at t
      obtain ⟨v, e, r⟩ := sr.2 i d q
      exact ⟨v, e, l.here t hr r⟩
def bC (d : D) : TrE := fun _ h P => P d h
theorem t_const {d : D} {v : V} (he : PE X e (L2.tC v)) (r : ∀ H, Rep X.K X.mg H d v) : TPE X e (bC d) := by
  refine PE_weak he ?_
  rintro σ H Q ⟨ds, h, P, sr, hr, t, l⟩
  exact l.here t hr (r H)
theorem t_int {i : Int} {j : Nat} : TPE X (.Constant (.int i) j pos) (bC (.int i)) := t_const pe_int fun _ => rfl
theorem t_bl {i : Bool} {j : Nat} : TPE X (.Constant (.bool i) j pos) (bC (.bl i)) := t_const pe_bl fun _ => rfl
theorem t_non {j : Nat} : TPE X (.Constant .none j pos) (bC .non) := t_const pe_non fun _ => rfl
theorem t_str {x : Str} {j : Nat} : TPE X (.Constant (.str x) j pos) (bC (.str x)) := t_const pe_str fun _ => rfl
theorem t_glo {x : Str} {f : Addr} (hg : Gl X x) (hm : X.mg x = some (.ref f)) (hd : (x == ("__debug__" : Str)) = false := by decide) : TPE X (.Name x pos) (bC (.glo x)) :=
  t_const (pe_glob (v := .ref f) hg hm rfl hd) fun _ => ⟨f, rfl, hm⟩
theorem t_gint {x : Str} {i : Int} (hg : Gl X x) (hm : ∃ t, X.mg x = some (.int i t)) (hd : (x == ("__debug__" : Str)) = false := by decide) : TPE X (.Name x pos) (bC (.int i)) := by
  obtain ⟨t, hm⟩ := hm
  exact t_const (pe_glob (v := .int i) hg hm ⟨t, rfl⟩ hd) fun _ => rfl
theorem t_gstr {x i : Str} (hg : Gl X x) (hm : ∃ t, X.mg x = some (.str i t)) (hd : (x == ("__debug__" : Str)) = false := by decide) : TPE X (.Name x pos) (bC (.str i)) := by
  obtain ⟨t, hm⟩ := hm
  exact t_const (pe_glob (v := .str i) hg hm ⟨t, rfl⟩ hd) fun _ => rfl
/-! ### lists of arguments, displays -/
def bNil : TrA := fun _ h P => P [] h
def bCons (t : TrE) (r : TrA) : TrA := fun ds h P => t ds h fun x h1 => r ds h1 fun xs h2 => P (x :: xs) h2
theorem t_nil : TPA X [] bNil := by
  refine PA_weak pa_nil ?_
  rintro σ H Q ⟨ds, h, P, sr, hr, t, l⟩
  exact l _ _ _ _ t hr (TK.refl H) rfl
theorem t_cons {ra : TrA} (ha : TPE X a ta) (hr : TPA X es ra) (hs : starEach (a :: es) X.env = (false, eval a X.env) :: starEach es X.env := by rfl) : TPA X (a :: es) (bCons ta ra) := by
  refine PA_weak (pa_cons ha hr hs) ?_
  rintro σ H Q ⟨ds, h, P, sr, hr, t, l⟩
  refine ⟨ds, h, _, sr, hr, t, fun x h1 v H1 p1 hr1 k1 r1 => ⟨ds, h1, _, sr.tk k1, hr1, p1, fun xs h2 vs H2 p2 hr2 k2 r2 => ?_⟩⟩
  exact l _ _ _ _ p2 hr2 (k1.trans k2) (.cons (r1.tk k2) r2)
def bTup (t : TrA) : TrE := fun ds h P => t ds h fun xs h1 => xs.length ≤ 100000 ∧ P (.tup xs) h1
theorem lin {n : Nat} (h : n ≤ 100000) : n ≤ sizeLine := Nat.le_trans h (by decide)
theorem t_tup {k : Nat} {t : TrA} (h : TPA X es t) : TPE X (.Tuple es k pos) (bTup t) := by
  refine PE_weak (pe_tup h) ?_
  rintro σ H Q ⟨ds, h, P, sr, hr, t, l⟩
  refine ⟨ds, h, _, sr, hr, t, fun xs h1 vs H1 p1 hr1 k1 r1 => ⟨by rw [← r1.length]; exact lin p1.1, fun p np => ?_⟩⟩
  exact (l.tk k1).tup hr1 np p1.2 r1
def bLst (t : TrA) : TrE := fun ds h P => t ds h fun xs h1 => xs.length ≤ 100000 ∧ ∀ p, h1 p = none → P (.ref p) (put h1 p (.lst xs))
theorem newLst {H : Hp} {p : Addr} {ds : List D} {vs : List V} {K : PySem.W.Frag} {mg : Str → Option Value} (n : H p = none) (r : Reps K mg H ds vs) : OR K mg (upd H p (.lst vs)) p (.lst ds) := ⟨vs, upd_same, r.tk (TK.new n)⟩
theorem t_lst {t : TrA} (h : TPA X es t) : TPE X (.List es pos) (bLst t) := by
  refine PE_weak (pe_lst h) ?_
  rintro σ H Q ⟨ds, h, P, sr, hr, t, l⟩
  refine ⟨ds, h, _, sr, hr, t, fun xs h1 vs H1 p1 hr1 k1 r1 => ⟨by rw [← r1.length]; exact lin p1.1, fun p np => ?_⟩⟩
  exact (l.tk k1).alloc hr1 np (p1.2 p (hr1.none np)) (newLst np r1)
def bDnew : TrE := fun _ h P => ∀ p, h p = none → P (.ref p) (put h p (.dct []))
theorem t_dnew : TPE X (.Dict [] [] pos) bDnew := by
  refine PE_weak pe_dnewK ?_
  rintro σ H Q ⟨ds, h, P, sr, hr, t, l⟩
  intro p np
  exact l.alloc hr np (t p (hr.none np)) ⟨[], upd_same, .nil⟩
/-! ### operators -/
def bBin (r : R2T) (ta tb : TrE) : TrE := fun ds h P => ta ds h fun x h1 => tb ds h1 fun y h2 => r x y h2 P
theorem comp2 {K : PySem.W.Frag} {mg : Str → Option Value} {r : R2T} {σ : St} {H : Hp} {Q : VK} (q : lE K mg (bBin r ta tb) σ H Q) : L2.tOp (l2 K mg r) (lE K mg ta) (lE K mg tb) σ H Q := by
  obtain ⟨ds, h, P, sr, hr, t, l⟩ := q
  refine ⟨ds, h, _, sr, hr, t, fun x h1 v H1 p1 hr1 k1 r1 => ⟨ds, h1, _, sr.tk k1, hr1, p1, fun y h2 w H2 p2 hr2 k2 r2 => ?_⟩⟩
  exact ⟨x, y, h2, P, r1.tk k2, r2, hr2, p2, (l.tk k1).tk k2⟩
theorem t_bin {op : Operator} {r : R2T} (ho : OpR X (binaryOp op) (l2 X.K X.mg r)) (ha : TPE X a ta) (hb : TPE X b tb) : TPE X (.BinOp a op b pos) (bBin r ta tb) := PE_weak (pe_op ho ha hb) fun _ _ _ => comp2
theorem t_cmp {op : CmpOp} {r : R2T} (ho : OpR X (compareOp op) (l2 X.K X.mg r)) (ha : TPE X a ta) (hb : TPE X b tb) (hm : behindInMarks op b = false := by first | exact nomark _ | rfl) : TPE X (.Compare a [op] [b] pos) (bBin r ta tb) := PE_weak (pe_cmpR ho ha hb hm) fun _ _ _ => comp2
def blQ (P : Bool → TH → Prop) : TQ := fun d h => match d with
  | .bl b => P b h
  | _ => False
def bB (t : TrE) : TrT := fun ds h P => t ds h (blQ P)
theorem comp2T {K : PySem.W.Frag} {mg : Str → Option Value} {r : R2T} {σ : St} {H : Hp} {Q : Bool → Hp → Prop} (q : lT K mg (bB (bBin r ta tb)) σ H Q) : L2.tTest (L2.tOp (l2 K mg r) (lE K mg ta) (lE K mg tb)) σ H Q := by
  obtain ⟨ds, h, P, sr, hr, t, l⟩ := q
  refine comp2 ⟨ds, h, _, sr, hr, t, fun d h' v H' p hr' k rd => ?_⟩
  unfold blQ at p
  cases d with
  | bl b => exact ⟨b, rd, l b h' H' p hr' k⟩
  | _ => exact p.elim
theorem t_cmpT {op : CmpOp} {r : R2T} (ho : OpR X (compareOp op) (l2 X.K X.mg r)) (ha : TPE X a ta) (hb : TPE X b tb) (hm : behindInMarks op b = false := by first | exact nomark _ | rfl) : TPT X (.Compare a [op] [b] pos) (bB (bBin r ta tb)) := PT_weak (pt_cmpR ho ha hb hm) fun _ _ _ => comp2T
/-- a < b < c -/
def bChain (r r' : R2T) (ta tb tc : TrE) : TrE := fun ds h P => ta ds h fun x h1 => tb ds h1 fun y h2 => r x y h2 (blQ fun k h3 => if k = true then tc ds h3 fun z h4 => r' y z h4 P else P (.bl false) h3)
theorem compC {K : PySem.W.Frag} {mg : Str → Option Value} {r r' : R2T} {σ : St} {H : Hp} {Q : VK} (q : lE K mg (bChain r r' ta tb tc) σ H Q) : L2.tChain (l2 K mg r) (l2 K mg r') (lE K mg ta) (lE K mg tb) (lE K mg tc) σ H Q := by
  obtain ⟨ds, h, P, sr, hr, t, l⟩ := q
  refine ⟨ds, h, _, sr, hr, t, fun x h1 v H1 p1 hr1 k1 r1 => ⟨ds, h1, _, sr.tk k1, hr1, p1, fun y h2 w H2 p2 hr2 k2 r2 => ?_⟩⟩
  refine ⟨x, y, h2, _, r1.tk k2, r2, hr2, p2, fun d h3 u H3 p3 hr3 k3 r3 => ?_⟩
  unfold blQ at p3
  cases d with
  | bl b =>
    refine ⟨b, r3, ?_⟩
    cases b with
    | true =>
      dsimp only at p3
      rw [if_pos rfl] at p3 ⊢
      refine ⟨ds, h3, _, (sr.tk k1).tk (k2.trans k3), hr3, p3, fun z h4 u4 H4 p4 hr4 k4 r4 => ?_⟩
      exact ⟨y, z, h4, P, r2.tk (k3.trans k4), r4, hr4, p4, ((l.tk k1).tk k2).tk (k3.trans k4)⟩
    | false =>
      dsimp only at p3
      rw [if_neg Bool.false_ne_true] at p3 ⊢
      exact (((l.tk k1).tk k2).tk k3).here p3 hr3 rfl
  | _ => exact p3.elim
theorem t_chain {op op' : CmpOp} {r r' : R2T} (ho : OpR X (compareOp op) (l2 X.K X.mg r)) (ho' : OpR X (compareOp op') (l2 X.K X.mg r')) (ha : TPE X a ta) (hb : TPE X b tb) (hc : TPE X c tc)
    (hm : lastMarks [op, op'] [b, c] = false := by with_unfolding_all rfl) : TPE X (.Compare a [op, op'] [b, c] pos) (bChain r r' ta tb tc) :=
  PE_weak (pe_chain ho ho' ha hb hc hm) fun _ _ _ => compC
theorem t_chainT {op op' : CmpOp} {r r' : R2T} (ho : OpR X (compareOp op) (l2 X.K X.mg r)) (ho' : OpR X (compareOp op') (l2 X.K X.mg r')) (ha : TPE X a ta) (hb : TPE X b tb) (hc : TPE X c tc)
    (hm : lastMarks [op, op'] [b, c] = false := by with_unfolding_all rfl) : TPT X (.Compare a [op, op'] [b, c] pos) (bB (bChain r r' ta tb tc)) := by
  refine PT_weak (pt_chain ho ho' ha hb hc hm) ?_
  rintro σ H Q ⟨ds, h, P, sr, hr, t, l⟩
  refine compC ⟨ds, h, _, sr, hr, t, fun d h' v H' p hr' k rd => ?_⟩
  unfold blQ at p
  cases d with
  | bl b => exact ⟨b, rd, l b h' H' p hr' k⟩
  | _ => exact p.elim
def bUn (r : R1T) (ta : TrE) : TrE := fun ds h P => ta ds h fun x h1 => r x h1 P
theorem comp1 {K : PySem.W.Frag} {mg : Str → Option Value} {r : R1T} {σ : St} {H : Hp} {Q : VK} (q : lE K mg (bUn r ta) σ H Q) : L2.tUn (l1 K mg r) (lE K mg ta) σ H Q := by
  obtain ⟨ds, h, P, sr, hr, t, l⟩ := q
  exact ⟨ds, h, _, sr, hr, t, fun x h1 v H1 p1 hr1 k1 r1 => ⟨x, h1, P, r1, hr1, p1, l.tk k1⟩⟩
theorem t_un {op : UnaryOp} {r : R1T} (ho : UnR X (unaryOp op) (l1 X.K X.mg r)) (ha : TPE X a ta) : TPE X (.UnaryOp op a pos) (bUn r ta) := PE_weak (pe_un ho ha) fun _ _ _ => comp1
/-! ### tests: and, or, not -/
def bAnd (t u : TrT) : TrT := fun ds h P => t ds h fun k h1 => if k = true then u ds h1 P else P false h1
def bOr (t u : TrT) : TrT := fun ds h P => t ds h fun k h1 => if k = true then P true h1 else u ds h1 P
def bNot (t : TrT) : TrT := fun ds h P => t ds h fun k h1 => P (!k) h1
abbrev TPW (X : Cx) (e : Expr) (t : TrT) : Prop := PW X e (lT X.K X.mg t)
section
variable {A B : TrT} {rest : List Expr}
theorem w_and1 (ha : TPT X a A) : TPW X (.BoolOp .And [a] pos) A := pw_and1 ha
theorem w_or1 (ha : TPT X a A) : TPW X (.BoolOp .Or [a] pos) A := pw_or1 ha
theorem w_and (ha : TPT X a A) (hb : TPW X (.BoolOp .And (b :: rest) pos) B) : TPW X (.BoolOp .And (a :: b :: rest) pos) (bAnd A B) := by
  refine PW_weak (pw_and ha hb) ?_
  rintro σ H Q ⟨ds, h, P, sr, hr, t, l⟩
  refine ⟨ds, h, _, sr, hr, t, fun k h1 H1 p1 hr1 k1 => ?_⟩
  cases k with
  | true => rw [if_pos rfl] at p1 ⊢; exact ⟨ds, h1, P, sr.tk k1, hr1, p1, l.tk k1⟩
  | false => rw [if_neg Bool.false_ne_true] at p1 ⊢; exact l _ _ _ p1 hr1 k1
theorem w_or (ha : TPT X a A) (hb : TPW X (.BoolOp .Or (b :: rest) pos) B) : TPW X (.BoolOp .Or (a :: b :: rest) pos) (bOr A B) := by
  refine PW_weak (pw_or ha hb) ?_
  rintro σ H Q ⟨ds, h, P, sr, hr, t, l⟩
  refine ⟨ds, h, _, sr, hr, t, fun k h1 H1 p1 hr1 k1 => ?_⟩
  cases k with
  | true => rw [if_pos rfl] at p1 ⊢; exact l _ _ _ p1 hr1 k1
  | false => rw [if_neg Bool.false_ne_true] at p1 ⊢; exact ⟨ds, h1, P, sr.tk k1, hr1, p1, l.tk k1⟩
theorem t_pw {e : Expr} (h : TPW X e A) : TPT X e A := PW.pt h
theorem t_notT (ha : TPT X a A) : TPT X (.UnaryOp .Not a pos) (bNot A) := by
  refine PT_weak (pt_not ha) ?_
  rintro σ H Q ⟨ds, h, P, sr, hr, t, l⟩
  exact ⟨ds, h, _, sr, hr, t, fun k h1 H1 p1 hr1 k1 => l _ _ _ p1 hr1 k1⟩
end
/-- truth by value -/
def truD (d : D) (h : TH) (P : Bool → Prop) : Prop := match d with
  | .non => P false
  | .bl b => P b
  | .int i => P (i != 0)
  | .str x => x.length ≤ 100000 ∧ P ((x.length : Int) != 0)
  | .tup xs => P (!xs.isEmpty)
  | .scr xs => P (!xs.isEmpty)
  | .ref p => match h p with
    | some (.lst xs) => P (!xs.isEmpty)
    | some (.dct kvs) => P (!kvs.isEmpty)
    | _ => False
  | _ => False
def bTru (t : TrE) : TrT := fun ds h P => t ds h fun d h1 => truD d h1 fun k => P k h1
theorem isEmpty_reps {K : PySem.W.Frag} {mg : Str → Option Value} {H : Hp} {ds : List D} {vs : List V} (r : Reps K mg H ds vs) : (!vs.isEmpty) = !ds.isEmpty := by
  cases ds with
  | nil => cases r; rfl
  | cons d ds => obtain ⟨v, r', rfl, _, _⟩ := r; rfl
theorem isEmpty_fr {K : PySem.W.Frag} {mg : Str → Option Value} {H : Hp} {κ : Type} {ds : List (κ × D)} {vs : List (κ × V)} (r : FR K mg H κ ds vs) : (!vs.isEmpty) = !ds.isEmpty := by
  cases r <;> rfl
theorem tru_of {K : PySem.W.Frag} {mg : Str → Option Value} {H : Hp} {h : TH} {d : D} {v : V} {P : Bool → Prop} (hr : HR K mg h H) (r : Rep K mg H d v) (t : truD d h P) : ∃ k, TruV K v H k ∧ P k := by
  cases d with
  | non => cases (show v = _ from r); exact ⟨_, rfl, t⟩
  | bl b => cases (show v = _ from r); exact ⟨_, rfl, t⟩
  | int i => cases (show v = _ from r); exact ⟨_, rfl, t⟩
  | str x => cases (show v = _ from r); exact ⟨_, ⟨lin t.1, rfl⟩, t.2⟩
  | tup xs =>
    obtain ⟨a, vs, rfl, s, q⟩ := r
    exact ⟨_, .inr (.inl ⟨vs, s, (isEmpty_reps q).symm⟩), t⟩
  | scr xs =>
    obtain ⟨a, rfl, s⟩ := r
    exact ⟨_, .inl ⟨_, s.sq, by simp⟩, t⟩
  | ref p =>
    cases (show v = _ from r)
    have t : (match h p with | some (.lst xs) => P (!xs.isEmpty) | some (.dct kvs) => P (!kvs.isEmpty) | _ => False) := t
    cases q : h p with
    | none => rw [q] at t; exact t.elim
    | some o =>
      rw [q] at t
      cases o with
      | lst xs => obtain ⟨vs, e, rr⟩ := hr p _ q; exact ⟨_, .inl ⟨vs, SqL.of e, (isEmpty_reps rr).symm⟩, t⟩
      | dct xs => obtain ⟨vs, e, rr⟩ := hr p _ q; exact ⟨_, .inr (.inr ⟨vs, e, (isEmpty_fr rr).symm⟩), t⟩
      | ins c fs => exact t.elim
  | _ => exact t.elim
theorem t_tru (ha : TPE X a ta) (he : ∀ whole, isTrue a X.env whole = (do let v ← whole; standAt a.pos; holding [v] (truthy v)) := by intro _; rfl) : TPT X a (bTru ta) := by
  refine PT_weak (pt_truth ha he) ?_
  rintro σ H Q ⟨ds, h, P, sr, hr, t, l⟩
  refine ⟨ds, h, _, sr, hr, t, fun d h1 v H1 p1 hr1 k1 r1 => ?_⟩
  obtain ⟨k, e, p⟩ := tru_of hr1 r1 p1
  exact ⟨k, e, l _ _ _ p hr1 k1⟩
/-! ### and, or, not as values (all but the last are bools) -/
def bAndV (ta tb : TrE) : TrE := fun ds h P => ta ds h (blQ fun k h1 => if k = true then tb ds h1 P else P (.bl false) h1)
def bOrV (ta tb : TrE) : TrE := fun ds h P => ta ds h (blQ fun k h1 => if k = true then P (.bl true) h1 else tb ds h1 P)
def bNotV (ta : TrE) : TrE := fun ds h P => ta ds h (blQ fun k h1 => P (.bl (!k)) h1)
section
variable {rest : List Expr}
theorem t_one {op : BoolOp} (h : TPE X a ta) : TPE X (.BoolOp op [a] pos) ta := pe_one h
theorem t_and (ha : TPE X a ta) (hb : TPE X (.BoolOp .And (b :: rest) pos) tb) : TPE X (.BoolOp .And (a :: b :: rest) pos) (bAndV ta tb) := by
  refine PE_weak (pe_and ha hb) ?_
  rintro σ H Q ⟨ds, h, P, sr, hr, t, l⟩
  refine ⟨ds, h, _, sr, hr, t, fun d h1 v H1 p1 hr1 k1 r1 => ?_⟩
  unfold blQ at p1
  cases d with
  | bl k =>
    refine ⟨k, r1, ?_⟩
    cases k with
    | true => dsimp only at p1; rw [if_pos rfl] at p1 ⊢; exact ⟨ds, h1, P, sr.tk k1, hr1, p1, l.tk k1⟩
    | false => dsimp only at p1; rw [if_neg Bool.false_ne_true] at p1 ⊢; exact (l.tk k1).here p1 hr1 rfl
  | _ => exact p1.elim
theorem t_or (ha : TPE X a ta) (hb : TPE X (.BoolOp .Or (b :: rest) pos) tb) : TPE X (.BoolOp .Or (a :: b :: rest) pos) (bOrV ta tb) := by
  refine PE_weak (pe_or ha hb) ?_
  rintro σ H Q ⟨ds, h, P, sr, hr, t, l⟩
  refine ⟨ds, h, _, sr, hr, t, fun d h1 v H1 p1 hr1 k1 r1 => ?_⟩
  unfold blQ at p1
  cases d with
  | bl k =>
    refine ⟨k, r1, ?_⟩
    cases k with
    | true => dsimp only at p1; rw [if_pos rfl] at p1 ⊢; exact (l.tk k1).here p1 hr1 rfl
    | false => dsimp only at p1; rw [if_neg Bool.false_ne_true] at p1 ⊢; exact ⟨ds, h1, P, sr.tk k1, hr1, p1, l.tk k1⟩
  | _ => exact p1.elim
theorem t_notV (ha : TPE X a ta) : TPE X (.UnaryOp .Not a pos) (bNotV ta) := by
  refine PE_weak (pe_not ha) ?_
  rintro σ H Q ⟨ds, h, P, sr, hr, t, l⟩
  refine ⟨ds, h, _, sr, hr, t, fun d h1 v H1 p1 hr1 k1 r1 => ?_⟩
  unfold blQ at p1
  cases d with
  | bl k => exact ⟨k, r1, (l.tk k1).here p1 hr1 rfl⟩
  | _ => exact p1.elim
end
def bIf (t : TrT) (ta tb : TrE) : TrE := fun ds h P => t ds h fun k h1 => if k = true then ta ds h1 P else tb ds h1 P
theorem t_ifE {A : TrT} (hc : TPT X c A) (ha : TPE X a ta) (hb : TPE X b tb) : TPE X (.IfExp c a b pos) (bIf A ta tb) := by
  refine PE_weak (pe_ifExp hc ha hb) ?_
  rintro σ H Q ⟨ds, h, P, sr, hr, t, l⟩
  refine ⟨ds, h, _, sr, hr, t, fun k h1 H1 p1 hr1 k1 => ?_⟩
  cases k with
  | true => rw [if_pos rfl] at p1 ⊢; exact ⟨ds, h1, P, sr.tk k1, hr1, p1, l.tk k1⟩
  | false => rw [if_neg Bool.false_ne_true] at p1 ⊢; exact ⟨ds, h1, P, sr.tk k1, hr1, p1, l.tk k1⟩
end
end T
set_option Elab.async false
set_option linter.all false
set_option maxRecDepth 100000
set_option maxHeartbeats 1000000
namespace T
open PySem L2 PyProof.Rows
section
variable {X : Cx}
/-! ### arithmetic -/
def addD : R2T := fun x y h P => match x, y with
  | .int i, .int j => P (.int (i + j)) h
  | .str i, .str j => i.length + j.length ≤ 100000 ∧ P (.str (i ++ j)) h
  | .tup xs, .tup ys => xs.length + ys.length ≤ 100000 ∧ P (.tup (xs ++ ys)) h
  | .ref p, .ref q => match h p, h q with
    | some (.lst xs), some (.lst ys) => xs.length + ys.length ≤ 100000 ∧ ∀ n, h n = none → P (.ref n) (put h n (.lst (xs ++ ys)))
    | _, _ => False
  | _, _ => False
theorem lstAt {K : PySem.W.Frag} {mg : Str → Option Value} {h : TH} {H : Hp} {p : Addr} {xs : List D} (hr : HR K mg h H) (e : h p = some (.lst xs)) : ∃ vs, H p = some (.lst vs) ∧ Reps K mg H xs vs := hr p _ e
theorem o_add : OpR X (binaryOp .Add) (l2 X.K X.mg addD) := by
  rintro pins s σ H x y v u Q I rx ry ⟨a, b, h, P, ra, rb, hr, t, l⟩
  cases a <;> cases b <;> try exact t.elim
  · cases (show x = _ from ra); cases (show y = _ from rb)
    exact op_add pins s σ H _ _ v u Q I rx ry ⟨_, _, rfl, rfl, l.here t hr rfl⟩
  · cases (show x = _ from ra); cases (show y = _ from rb)
    exact op_add_str pins s σ H _ _ v u Q I rx ry ⟨_, _, rfl, rfl, lin t.1, l.here t.2 hr rfl⟩
  · rename_i xs ys
    have hl : xs.length + ys.length ≤ 100000 := t.1
    obtain ⟨p, vs, rfl, s1, r1⟩ := ra
    obtain ⟨q, us, rfl, s2, r2⟩ := rb
    refine op_catA pins s σ H _ _ v u Q I rx ry ⟨p, q, vs, us, rfl, rfl, s1, s2, by rw [← r1.length, ← r2.length]; exact lin hl, fun e => ?_, fun _ e => ?_, fun _ _ n hn => ?_⟩
    · subst e
      have : xs = [] := List.length_eq_zero_iff.mp r1.length
      subst this
      exact l.here t.2 hr ⟨q, us, rfl, s2, r2⟩
    · subst e
      have : ys = [] := List.length_eq_zero_iff.mp r2.length
      subst this
      refine l.here t.2 hr ⟨p, vs, rfl, s1, ?_⟩
      rw [List.append_nil]; exact r1
    · exact l.tup hr hn t.2 (r1.append r2)
  · rename_i p q
    cases (show x = _ from ra); cases (show y = _ from rb)
    have t : (match h p, h q with | some (.lst xs), some (.lst ys) => xs.length + ys.length ≤ 100000 ∧ ∀ n, h n = none → P (.ref n) (put h n (.lst (xs ++ ys))) | _, _ => False) := t
    split at t
    · rename_i xs ys e1 e2
      obtain ⟨vs, s1, r1⟩ := lstAt hr e1
      obtain ⟨us, s2, r2⟩ := lstAt hr e2
      exact op_cat pins s σ H _ _ v u Q I rx ry ⟨p, q, vs, us, rfl, rfl, s1, s2, by rw [← r1.length, ← r2.length]; exact lin t.1, fun n hn => l.alloc hr hn (t.2 n (hr.none hn)) (newLst hn (r1.append r2))⟩
    · exact t.elim
def iiD (f : Int → Int → TH → TQ → Prop) : R2T := fun x y h P => match x, y with
  | .int i, .int j => f i j h P
  | _, _ => False
theorem o_ii {g : Value → Value → Sem Value} {f : Int → Int → TH → TQ → Prop} (h : ∀ pins s σ H i j v u Q, Inv X pins σ H s → RelV (.int i) v → RelV (.int j) u → (∃ h P, HR X.K X.mg h H ∧ f i j h P ∧ Lift X.K X.mg H P Q) → wpAny (model X.prog X.w) X.A (g v u) (EP X pins σ Q) X.xe s) :
    OpR X g (l2 X.K X.mg (iiD f)) := by
  rintro pins s σ H x y v u Q I rx ry ⟨a, b, hh, P, ra, rb, hr, t, l⟩
  unfold iiD at t
  split at t
  · cases (show x = _ from ra); cases (show y = _ from rb)
    exact h pins s σ H _ _ v u Q I rx ry ⟨hh, P, hr, t, l⟩
  · exact t.elim
def subD : R2T := iiD fun i j h P => P (.int (i - j)) h
theorem o_sub : OpR X (binaryOp .Sub) (l2 X.K X.mg subD) := o_ii fun pins s σ H i j v u Q I rx ry ⟨h, P, hr, t, l⟩ => op_sub pins s σ H _ _ v u Q I rx ry ⟨_, _, rfl, rfl, l.here t hr rfl⟩
/-- // by a positive number -/
def fdivD : R2T := iiD fun i j h P => (0 < j ∧ j.natAbs < 2 ^ 5000) ∧ P (.int (i / j)) h
theorem o_fdiv : OpR X (binaryOp .FloorDiv) (l2 X.K X.mg fdivD) := o_ii fun pins s σ H i j v u Q I rx ry ⟨h, P, hr, t, l⟩ =>
  op_fdivW pins s σ H _ _ v u Q I rx ry ⟨_, _, rfl, rfl, wide_div (b := 5000) t.1.1 t.1.2 (by decide) (by decide), l.here t.2 hr rfl⟩
def modD : R2T := iiD fun i j h P => 0 < j ∧ P (.int (i % j)) h
theorem o_mod : OpR X (binaryOp .Mod) (l2 X.K X.mg modD) := o_ii fun pins s σ H i j v u Q I rx ry ⟨h, P, hr, t, l⟩ => op_mod pins s σ H _ _ v u Q I rx ry ⟨_, _, rfl, rfl, t.1, l.here t.2 hr rfl⟩
def powD : R2T := iiD fun i j h P => CPow i j ∧ P (.int (i ^ j.toNat)) h
theorem o_pow : OpR X (binaryOp .Pow) (l2 X.K X.mg powD) := o_ii fun pins s σ H i j v u Q I rx ry ⟨h, P, hr, t, l⟩ => op_pow pins s σ H _ _ v u Q I rx ry ⟨_, _, rfl, rfl, t.1, l.here t.2 hr rfl⟩
/-- a text, k times -/
def reps (x : Str) (k : Nat) : Str := ⟨((List.replicate k x.cps.toList).flatten).toArray⟩
def MulBig (i j : Int) : Prop := CMul i j ∨ (i.natAbs < 2 ^ 400000 ∧ j.natAbs < 2 ^ 400000)
def mulD : R2T := fun x y h P => match x, y with
  | .int i, .int j => MulBig i j ∧ P (.int (i * j)) h
  | .str x, .int j => (x.length ≤ 1000 ∧ 0 ≤ j ∧ j ≤ 100) ∧ P (.str (reps x j.toNat)) h
  | .ref p, .int k => match h p with
    | some (.lst xs) => (-(2 ^ 63) ≤ k ∧ k < 2 ^ 63 ∧ xs.length * k.toNat ≤ 100000) ∧ ∀ n, h n = none → P (.ref n) (put h n (.lst (List.replicate k.toNat xs).flatten))
    | _ => False
  | _, _ => False
theorem str_ext {x y : Str} (h : x.cps.toList = y.cps.toList) : x = y := by
  cases x; cases y; congr; exact Array.toList_inj.mp h
theorem foldl_app (x : Array Nat) : ∀ (k : Nat) (acc : Array Nat), ((List.replicate k x).foldl (· ++ ·) acc).toList = acc.toList ++ (List.replicate k x.toList).flatten
  | 0, acc => by simp
  | k + 1, acc => by simp [List.replicate_succ, foldl_app x k]
theorem mul_text (x : Str) (n : Int) : Txt.mul x n = reps x n.toNat := by
  apply str_ext
  unfold Txt.mul
  by_cases h1 : n < 1
  · rw [if_pos h1, show n.toNat = 0 by omega]; rfl
  · rw [if_neg h1]
    by_cases h2 : (n == 1 || x.length == 0) = true
    · rw [if_pos h2]
      rcases Bool.or_eq_true_iff.mp h2 with h | h
      · rw [show n = 1 from eq_of_beq h]; simp [reps]
      · have e : x.cps.toList = [] := by
          have : x.cps.size = 0 := eq_of_beq h
          exact List.length_eq_zero_iff.mp (by simpa using this)
        simp [reps, e]
    · rw [if_neg h2]
      show ((List.replicate n.toNat x.cps).foldl (· ++ ·) #[]).toList = _
      rw [foldl_app]; simp [reps]
theorem Reps.rep {K : PySem.W.Frag} {mg : Str → Option Value} {H : Hp} {ds : List D} {vs : List V} (r : Reps K mg H ds vs) : ∀ k : Nat, Reps K mg H (List.replicate k ds).flatten (List.replicate k vs).flatten
  | 0 => .nil
  | k + 1 => by rw [List.replicate_succ, List.replicate_succ, List.flatten_cons, List.flatten_cons]; exact r.append (Reps.rep r k)
theorem o_mul : OpR X (binaryOp .Mult) (l2 X.K X.mg mulD) := by
  rintro pins s σ H x y v u Q I rx ry ⟨a, b, h, P, ra, rb, hr, t, l⟩
  cases a <;> cases b <;> try exact t.elim
  · cases (show x = _ from ra); cases (show y = _ from rb)
    rcases t.1 with c | c
    · exact op_mul pins s σ H _ _ v u Q I rx ry ⟨_, _, rfl, rfl, c, l.here t.2 hr rfl⟩
    · exact op_mulW pins s σ H _ _ v u Q I rx ry ⟨_, _, rfl, rfl, wide_mul c.1 c.2 (by decide) (by decide) (by decide), l.here t.2 hr rfl⟩
  · rename_i z j
    cases (show x = _ from ra); cases (show y = _ from rb)
    obtain ⟨t1, rfl⟩ := rx
    obtain ⟨t2, rfl⟩ := ry
    have h1 : z.length ≤ 1000 := t.1.1
    have h0 : 0 ≤ j := t.1.2.1
    have h2 : j ≤ 100 := t.1.2.2
    have t3 : P (.str (reps z j.toNat)) h := t.2
    have hm : (z.length : Int) * j ≤ 1000 * 100 := Int.mul_le_mul (by omega) h2 h0 (by decide)
    refine SB.mul ⟨?_, fun q _ => ?_, fun q _ => ?_⟩ fun t' k => ?_
    · rw [decide_eq_false (by omega), decide_eq_false (by omega)]; rfl
    · have : (z.length : Int) ≤ (2 ^ 63 - 1) / j := (Int.le_ediv_iff_mul_le (by omega)).mpr (by omega)
      omega
    · have e : ((z.length * j.toNat : Nat) : Int) = (z.length : Int) * j := by rw [Int.natCast_mul, Int.toNat_of_nonneg h0]
      have e2 : z.length * j.toNat ≤ 100000 := by omega
      have e3 := sizeLine_eq
      unfold Builtin.Str.tooLong
      exact decide_eq_false (by omega)
    · rw [mul_text]
      exact ⟨.str _, H, I.tok k, ⟨_, rfl⟩, l.here t3 hr rfl⟩
  · rename_i p k
    cases (show x = _ from ra); cases (show y = _ from rb)
    have t : (match h p with | some (.lst xs) => (-(2 ^ 63) ≤ k ∧ k < 2 ^ 63 ∧ xs.length * k.toNat ≤ 100000) ∧ ∀ n, h n = none → P (.ref n) (put h n (.lst (List.replicate k.toNat xs).flatten)) | _ => False) := t
    split at t
    · rename_i xs e1
      obtain ⟨vs, s1, r1⟩ := lstAt hr e1
      exact op_rep pins s σ H _ _ v u Q I rx ry ⟨p, k, vs, rfl, rfl, s1, t.1.1, t.1.2.1, by rw [← r1.length]; exact lin t.1.2.2, fun n hn => l.alloc hr hn (t.2 n (hr.none hn)) (newLst hn (r1.rep _))⟩
    · exact t.elim
/-! ### signs -/
def negD : R1T := fun x h P => match x with
  | .int i => P (.int (-i)) h
  | _ => False
theorem o_neg : UnR X (unaryOp .USub) (l1 X.K X.mg negD) := by
  rintro pins s σ H x v Q I rx ⟨a, h, P, ra, hr, t, l⟩
  cases a <;> try exact t.elim
  cases (show x = _ from ra)
  exact un_neg pins s σ H _ v Q I rx ⟨_, rfl, l.here t hr rfl⟩
/-! ### order -/
def lexS (x y : Str) : Bool := decide (x.cps.toList < y.cps.toList)
def ltD : R2T := fun x y h P => match x, y with
  | .int i, .int j => P (.bl (decide (i < j))) h
  | .str i, .str j => P (.bl (lexS i j)) h
  | _, _ => False
def leD : R2T := fun x y h P => match x, y with
  | .int i, .int j => P (.bl (decide (i ≤ j))) h
  | .str i, .str j => P (.bl (!lexS j i)) h
  | _, _ => False
def gtD : R2T := fun x y => ltD y x
def geD : R2T := fun x y => leD y x
theorem o_lt : OpR X (compareOp .Lt) (l2 X.K X.mg ltD) := by
  rintro pins s σ H x y v u Q I rx ry ⟨a, b, h, P, ra, rb, hr, t, l⟩
  cases a <;> cases b <;> try exact t.elim
  all_goals cases (show x = _ from ra); cases (show y = _ from rb)
  · exact op_lt pins s σ H _ _ v u Q I rx ry ⟨_, _, rfl, rfl, l.here t hr rfl⟩
  · exact op_lt_str pins s σ H _ _ v u Q I rx ry ⟨_, _, rfl, rfl, l.here t hr rfl⟩
theorem o_le : OpR X (compareOp .LtE) (l2 X.K X.mg leD) := by
  rintro pins s σ H x y v u Q I rx ry ⟨a, b, h, P, ra, rb, hr, t, l⟩
  cases a <;> cases b <;> try exact t.elim
  all_goals cases (show x = _ from ra); cases (show y = _ from rb)
  · exact op_le pins s σ H _ _ v u Q I rx ry ⟨_, _, rfl, rfl, l.here t hr rfl⟩
  · exact op_le_str pins s σ H _ _ v u Q I rx ry ⟨_, _, rfl, rfl, l.here t hr rfl⟩
theorem o_gt : OpR X (compareOp .Gt) (l2 X.K X.mg gtD) := by
  rintro pins s σ H x y v u Q I rx ry ⟨a, b, h, P, ra, rb, hr, t, l⟩
  cases a <;> cases b <;> try exact t.elim
  all_goals cases (show x = _ from ra); cases (show y = _ from rb)
  · exact op_gt pins s σ H _ _ v u Q I rx ry ⟨_, _, rfl, rfl, l.here t hr rfl⟩
  · exact op_gt_str pins s σ H _ _ v u Q I rx ry ⟨_, _, rfl, rfl, l.here t hr rfl⟩
theorem o_ge : OpR X (compareOp .GtE) (l2 X.K X.mg geD) := by
  rintro pins s σ H x y v u Q I rx ry ⟨a, b, h, P, ra, rb, hr, t, l⟩
  cases a <;> cases b <;> try exact t.elim
  all_goals cases (show x = _ from ra); cases (show y = _ from rb)
  · exact op_ge pins s σ H _ _ v u Q I rx ry ⟨_, _, rfl, rfl, l.here t hr rfl⟩
  · exact op_ge_str pins s σ H _ _ v u Q I rx ry ⟨_, _, rfl, rfl, l.here t hr rfl⟩
/-! ### data -/
mutual
def toPy : D → Option PyData
  | .non => some .none
  | .bl b => some (.bool b)
  | .int i => some (.int i)
  | .str x => some (.str x)
  | .tup ds => (toPys ds).map .tuple
  | _ => none
def toPys : List D → Option (List PyData)
  | [] => some []
  | d :: ds => match toPy d, toPys ds with
    | some x, some xs => some (x :: xs)
    | _, _ => none
end
def pyOf (h : TH) (d : D) : Option PyData := match d with
  | .ref a => match h a with
    | some (.lst ds) => (toPys ds).map .list
    | _ => none
  | d => toPy d
section
variable {K : PySem.W.Frag} {mg : Str → Option Value} {H : Hp} {h : TH}
mutual
theorem dp_of : ∀ {d : D} {v : V} {p : PyData}, Rep K mg H d v → toPy d = some p → Dp K H v p
  | .non, v, p, r, e => by cases (show v = _ from r); cases e; exact .non
  | .bl b, v, p, r, e => by cases (show v = _ from r); cases e; exact .bl b
  | .int b, v, p, r, e => by cases (show v = _ from r); cases e; exact .int b
  | .str b, v, p, r, e => by cases (show v = _ from r); cases e; exact .str b
  | .tup ds, v, p, r, e => by
    obtain ⟨a, vs, rfl, s, q⟩ := r
    have e : (toPys ds).map .tuple = some p := e
    cases z : toPys ds with
    | none => rw [z] at e; cases e
    | some ps => rw [z] at e; cases e; exact .tup s (dps_of q z)
  | .scr _, _, _, _, e => by cases e
  | .ref _, _, _, _, e => by cases e
  | .ty _, _, _, _, e => by cases e
  | .glo _, _, _, _, e => by cases e
theorem dps_of : ∀ {ds : List D} {vs : List V} {ps : List PyData}, Reps K mg H ds vs → toPys ds = some ps → DpAll K H vs ps
  | [], vs, ps, r, e => by cases (show vs = _ from r); cases e; exact .nil
  | d :: ds, vs, ps, r, e => by
    obtain ⟨v, w, rfl, a, b⟩ := r
    have e : (match toPy d, toPys ds with | some x, some xs => some (x :: xs) | _, _ => none) = some ps := e
    split at e
    · rename_i x xs e1 e2
      cases e
      exact .cons (dp_of a e1) (dps_of b e2)
    · cases e
end
theorem dp_at {d : D} {v : V} {p : PyData} (hr : HR K mg h H) (r : Rep K mg H d v) (e : pyOf h d = some p) : Dp K H v p := by
  unfold pyOf at e
  split at e
  · rename_i a
    cases (show v = _ from r)
    split at e
    · rename_i ds q
      obtain ⟨vs, e1, r1⟩ := lstAt hr q
      cases z : toPys ds with
      | none => rw [z] at e; cases e
      | some ps => rw [z] at e; cases e; exact .lst (SqL.of e1) (dps_of r1 z)
    · cases e
  · exact dp_of r e
end
/-- == : scalars at once, other data by their trees -/
def eqG (f : Bool → Bool) : R2T := fun x y h P => match x, y with
  | .int i, .int j => P (.bl (f (decide (i = j)))) h
  | .str i, .str j => P (.bl (f (decide (i = j)))) h
  | .bl i, .bl j => P (.bl (f (decide (i = j)))) h
  | .non, .non => P (.bl (f true)) h
  | .non, .int _ => P (.bl (f false)) h
  | .int _, .non => P (.bl (f false)) h
  | .non, .str _ => P (.bl (f false)) h
  | .str _, .non => P (.bl (f false)) h
  | .int _, .str _ => P (.bl (f false)) h
  | .str _, .int _ => P (.bl (f false)) h
  | x, y => match pyOf h x, pyOf h y with
    | some d, some e => SeqAt.shaped d = true ∧ SeqAt.shaped e = true ∧ P (.bl (f (PyData.eqv d e))) h
    | _, _ => False
def eqD : R2T := eqG id
def neD : R2T := eqG (!·)
theorem o_eqG {g : Value → Value → Sem Value} {f : Bool → Bool} (h1 : OpR X g (fun x y H Q => scal x y = true ∧ Q (.bl (f (decide (x = y)))) H))
    (h2 : OpR X g (fun x y H Q => ∃ d e, Dp X.K H x d ∧ Dp X.K H y e ∧ SeqAt.shaped d = true ∧ SeqAt.shaped e = true ∧ Q (.bl (f (PyData.eqv d e))) H)) : OpR X g (l2 X.K X.mg (eqG f)) := by
  rintro pins s σ H x y v u Q I rx ry ⟨a, b, h, P, ra, rb, hr, t, l⟩
  unfold eqG at t
  split at t
  · cases (show x = _ from ra); cases (show y = _ from rb)
    exact h1 pins s σ H _ _ v u Q I rx ry ⟨rfl, by simpa using l.here t hr rfl⟩
  · cases (show x = _ from ra); cases (show y = _ from rb)
    exact h1 pins s σ H _ _ v u Q I rx ry ⟨rfl, by simpa using l.here t hr rfl⟩
  · cases (show x = _ from ra); cases (show y = _ from rb)
    exact h1 pins s σ H _ _ v u Q I rx ry ⟨rfl, by simpa using l.here t hr rfl⟩
  · cases (show x = _ from ra); cases (show y = _ from rb)
    exact h1 pins s σ H _ _ v u Q I rx ry ⟨rfl, by simpa using l.here t hr rfl⟩
  · cases (show x = _ from ra); cases (show y = _ from rb)
    exact h1 pins s σ H _ _ v u Q I rx ry ⟨rfl, by simpa using l.here t hr rfl⟩
  · cases (show x = _ from ra); cases (show y = _ from rb)
    exact h1 pins s σ H _ _ v u Q I rx ry ⟨rfl, by simpa using l.here t hr rfl⟩
  · cases (show x = _ from ra); cases (show y = _ from rb)
    exact h1 pins s σ H _ _ v u Q I rx ry ⟨rfl, by simpa using l.here t hr rfl⟩
  · cases (show x = _ from ra); cases (show y = _ from rb)
    exact h1 pins s σ H _ _ v u Q I rx ry ⟨rfl, by simpa using l.here t hr rfl⟩
  · cases (show x = _ from ra); cases (show y = _ from rb)
    exact h1 pins s σ H _ _ v u Q I rx ry ⟨rfl, by simpa using l.here t hr rfl⟩
  · cases (show x = _ from ra); cases (show y = _ from rb)
    exact h1 pins s σ H _ _ v u Q I rx ry ⟨rfl, by simpa using l.here t hr rfl⟩
  · split at t
    · rename_i d e e1 e2
      exact h2 pins s σ H _ _ v u Q I rx ry ⟨d, e, dp_at hr ra e1, dp_at hr rb e2, t.1, t.2.1, l.here t.2.2 hr rfl⟩
    · exact t.elim
theorem o_eq (hu : X.A.units + 64 < cLine) : OpR X (compareOp .Eq) (l2 X.K X.mg eqD) := o_eqG op_eq (op_eqD hu)
theorem o_ne (hu : X.A.units + 64 < cLine) : OpR X (compareOp .NotEq) (l2 X.K X.mg neD) := o_eqG op_ne (op_neD hu)
/-! ### is None -/
def isN (d : D) : Bool := match d with
  | .non => true
  | _ => false
def isND : R2T := fun x y h P => match y with
  | .non => P (.bl (isN x)) h
  | _ => False
def notND : R2T := fun x y h P => match y with
  | .non => P (.bl (!isN x)) h
  | _ => False
theorem isN_ok {K : PySem.W.Frag} {mg : Str → Option Value} {H : Hp} {d : D} {v : V} (r : Rep K mg H d v) : decide (v = .non) = isN d := by
  cases d with
  | non => cases (show v = _ from r); rfl
  | tup ds => obtain ⟨a, vs, rfl, _⟩ := r; rfl
  | scr ds => obtain ⟨a, rfl, _⟩ := r; rfl
  | glo ds => obtain ⟨a, rfl, _⟩ := r; rfl
  | _ => cases (show v = _ from r); rfl
theorem o_isN : OpR X (compareOp .Is) (l2 X.K X.mg isND) := by
  rintro pins s σ H x y v u Q I rx ry ⟨a, b, h, P, ra, rb, hr, t, l⟩
  cases b <;> try exact t.elim
  cases (show y = _ from rb)
  exact op_isN pins s σ H _ _ v u Q I rx ry ⟨rfl, by rw [isN_ok ra]; exact l.here t hr rfl⟩
theorem o_notN : OpR X (compareOp .IsNot) (l2 X.K X.mg notND) := by
  rintro pins s σ H x y v u Q I rx ry ⟨a, b, h, P, ra, rb, hr, t, l⟩
  cases b <;> try exact t.elim
  cases (show y = _ from rb)
  exact op_notN pins s σ H _ _ v u Q I rx ry ⟨rfl, by rw [isN_ok ra]; exact l.here t hr rfl⟩
end
end T
set_option Elab.async false
set_option linter.all false
set_option maxRecDepth 100000
set_option maxHeartbeats 1000000
namespace T
open PySem L2 PyProof.Rows
/-! ### dicts by trees -/
def getK (kvs : List (Key × D)) (k : Key) : Option D := (kvs.find? fun kv => decide (kv.1 = k)).map (·.2)
def setK (kvs : List (Key × D)) (k : Key) (v : D) : List (Key × D) :=
  if (kvs.any fun kv => decide (kv.1 = k)) = true then kvs.map (fun kv => if kv.1 = k then (kv.1, v) else kv) else kvs ++ [(k, v)]
def keyOf : D → Option Key
  | .int i => some (.inl i)
  | .str x => some (.inr x)
  | _ => none
section
variable {K : PySem.W.Frag} {mg : Str → Option Value} {H : Hp} {h : TH}
theorem key_of {d : D} {v : V} {k : Key} (r : Rep K mg H d v) (e : keyOf d = some k) : v = kV k := by
  cases d <;> first | (cases e; exact r) | cases e
theorem FR.any {κ : Type} [DecidableEq κ] {k : κ} : ∀ {xs : List (κ × D)} {ys : List (κ × V)}, FR K mg H κ xs ys → (ys.any fun kv => decide (kv.1 = k)) = xs.any fun kv => decide (kv.1 = k)
  | _, _, .nil => rfl
  | _, _, .cons a t => by rw [List.any_cons, List.any_cons, FR.any t, a.1]
theorem FR.get {k : Key} : ∀ {xs : List (Key × D)} {ys : List (Key × V)}, FR K mg H Key xs ys → (∃ d v, getK xs k = some d ∧ valV ys k = some v ∧ Rep K mg H d v) ∨ (getK xs k = none ∧ valV ys k = none)
  | _, _, .nil => .inr ⟨rfl, rfl⟩
  | x :: xs, y :: ys, .cons a t => by
    unfold getK valV
    by_cases e : x.1 = k
    · rw [List.find?_cons_of_pos (by simpa using e), List.find?_cons_of_pos (by simpa [← a.1] using e)]
      exact .inl ⟨_, _, rfl, rfl, a.2⟩
    · rw [List.find?_cons_of_neg (by simpa using e), List.find?_cons_of_neg (by simpa [← a.1] using e)]
      exact FR.get t
theorem FR.map {k : Key} {d : D} {v : V} (r : Rep K mg H d v) : ∀ {xs : List (Key × D)} {ys : List (Key × V)}, FR K mg H Key xs ys →
    FR K mg H Key (xs.map fun kv => if kv.1 = k then (kv.1, d) else kv) (ys.map fun kv => if kv.1 = k then (kv.1, v) else kv)
  | _, _, .nil => .nil
  | x :: xs, y :: ys, .cons a t => by
    rw [List.map_cons, List.map_cons]
    refine .cons ?_ (FR.map r t)
    by_cases e : x.1 = k
    · rw [if_pos e, if_pos (a.1 ▸ e)]; exact ⟨a.1, r⟩
    · rw [if_neg e, if_neg (a.1 ▸ e)]; exact a
theorem FR.snoc {κ : Type} {k : κ} {d : D} {v : V} {xs : List (κ × D)} {ys : List (κ × V)} (t : FR K mg H κ xs ys) (r : Rep K mg H d v) : FR K mg H κ (xs ++ [(k, d)]) (ys ++ [(k, v)]) := Paired.snoc t ⟨rfl, r⟩
theorem FR.put {k : Key} {d : D} {v : V} {xs : List (Key × D)} {ys : List (Key × V)} (t : FR K mg H Key xs ys) (r : Rep K mg H d v) : FR K mg H Key (setK xs k d) (putK ys k v) := by
  unfold setK putK
  rw [t.any]
  split
  · exact t.map r
  · exact t.snoc r
theorem FR.length {κ : Type} {xs : List (κ × D)} {ys : List (κ × V)} (t : FR K mg H κ xs ys) : xs.length = ys.length := Paired.length t
theorem dctAt {p : Addr} {kvs : List (Key × D)} (hr : HR K mg h H) (e : h p = some (.dct kvs)) : ∃ ks, H p = some (.dK ks) ∧ FR K mg H Key kvs ks := hr p _ e
end
section
variable {X : Cx} {a b e : Expr} {es : List Expr} {ta tb : TrE} {pos : Pos}
/-! ### in -/
def inSeq (neg : Bool) (x : D) (ds : List D) (h : TH) (P : TQ) : Prop := match pyOf h x, toPys ds with
  | some d, some es => SeqAt.shaped d = true ∧ SeqAt.shaped (.list es) = true ∧ P (.bl (if neg then !(es.any fun z => PyData.eqv z d) else es.any fun z => PyData.eqv z d)) h
  | _, _ => False
def inG (neg : Bool) : R2T := fun x y h P => match y with
  | .str z => (match x with
    | .str c => ∃ n, c = ⟨#[n]⟩ ∧ P (.bl (if neg then !decide (n ∈ z.cps.toList) else decide (n ∈ z.cps.toList))) h
    | _ => False)
  | .tup ds => inSeq neg x ds h P
  | .ref p => (match h p with
    | some (.lst ds) => inSeq neg x ds h P
    | some (.dct kvs) => (match keyOf x with
      | some k => P (.bl (if neg then !(getK kvs k).isSome else (getK kvs k).isSome)) h
      | none => False)
    | _ => False)
  | _ => False
def inD : R2T := inG false
def notInD : R2T := inG true
theorem o_inG {neg : Bool} {g : Value → Value → Sem Value} (h1 : OpR X g (fun x y H Q => ∃ (c : Nat) (z : Str), x = .str ⟨#[c]⟩ ∧ y = .str z ∧ Q (.bl (if neg then !decide (c ∈ z.cps.toList) else decide (c ∈ z.cps.toList))) H))
    (h2 : OpR X g (fun x y H Q => ∃ d ds, Dp X.K H x d ∧ Dp X.K H y (.list ds) ∧ SeqAt.shaped d = true ∧ SeqAt.shaped (.list ds) = true ∧ Q (.bl (if neg then !(ds.any fun z => PyData.eqv z d) else ds.any fun z => PyData.eqv z d)) H))
    (h3 : OpR X g (fun x y H Q => ∃ d ds, Dp X.K H x d ∧ Dp X.K H y (.tuple ds) ∧ SeqAt.shaped d = true ∧ SeqAt.shaped (.list ds) = true ∧ Q (.bl (if neg then !(ds.any fun z => PyData.eqv z d) else ds.any fun z => PyData.eqv z d)) H))
    (h4 : OpR X g (fun y x H Q => ∃ a o, x = .ref a ∧ DGet H a y o ∧ Q (.bl (if neg then !o.isSome else o.isSome)) H)) : OpR X g (l2 X.K X.mg (inG neg)) := by
  rintro pins s σ H x y v u Q I rx ry ⟨a, b, h, P, ra, rb, hr, t, l⟩
  unfold inG at t
  split at t
  · split at t
    · obtain ⟨n, rfl, t⟩ := t
      cases (show x = _ from ra); cases (show y = _ from rb)
      exact h1 pins s σ H _ _ v u Q I rx ry ⟨_, _, rfl, rfl, l.here t hr rfl⟩
    · exact t.elim
  · rename_i ds
    unfold inSeq at t
    split at t
    · rename_i d es e1 e2
      obtain ⟨p, vs, rfl, s1, r1⟩ := rb
      exact h3 pins s σ H _ _ v u Q I rx ry ⟨d, es, dp_at hr ra e1, .tup s1 (dps_of r1 e2), t.1, t.2.1, l.here t.2.2 hr rfl⟩
    · exact t.elim
  · rename_i p
    cases (show y = _ from rb)
    split at t
    · rename_i ds q
      unfold inSeq at t
      split at t
      · rename_i d es e1 e2
        obtain ⟨vs, s1, r1⟩ := lstAt hr q
        exact h2 pins s σ H _ _ v u Q I rx ry ⟨d, es, dp_at hr ra e1, .lst (SqL.of s1) (dps_of r1 e2), t.1, t.2.1, l.here t.2.2 hr rfl⟩
      · exact t.elim
    · rename_i kvs q
      split at t
      · rename_i k ek
        obtain ⟨ks, s1, r1⟩ := dctAt hr q
        cases key_of ra ek
        refine h4 pins s σ H _ _ v u Q I rx ry ⟨p, valV ks k, rfl, DGet.k s1, ?_⟩
        have eb : (valV ks k).isSome = (getK kvs k).isSome := by
          rcases r1.get (k := k) with ⟨d, w, g1, g2, _⟩ | ⟨g1, g2⟩ <;> rw [g1, g2] <;> rfl
        rw [eb]
        exact l.here t hr rfl
      · exact t.elim
    · exact t.elim
  · exact t.elim
theorem op_inDT (hu : X.A.units + 65 < cLine) : OpR X (compareOp .In) (fun x y H Q => ∃ d ds, Dp X.K H x d ∧ Dp X.K H y (.tuple ds) ∧ SeqAt.shaped d = true ∧ SeqAt.shaped (.list ds) = true ∧ Q (.bl (ds.any fun z => PyData.eqv z d)) H) := by
  intro pins s σ H x y v u Q I rx ry h
  obtain ⟨d, ds, hd, he, sd, se, q⟩ := h
  obtain ⟨as, r1⟩ := Dp.reads I d x v hd rx
  obtain ⟨bs, r2⟩ := Dp.reads I (.tuple ds) y u he ry
  exact SeqAt.in_tuple_reads r2 r1 (SeqAt.canLay_of_shaped se) (SeqAt.canLay_of_shaped sd) (room_in_shaped sd hu) ⟨.bl _, H, I, rfl, q⟩
theorem op_notInDT (hu : X.A.units + 65 < cLine) : OpR X (compareOp .NotIn) (fun x y H Q => ∃ d ds, Dp X.K H x d ∧ Dp X.K H y (.tuple ds) ∧ SeqAt.shaped d = true ∧ SeqAt.shaped (.list ds) = true ∧ Q (.bl (!ds.any fun z => PyData.eqv z d)) H) := by
  intro pins s σ H x y v u Q I rx ry h
  obtain ⟨d, ds, hd, he, sd, se, q⟩ := h
  obtain ⟨as, r1⟩ := Dp.reads I d x v hd rx
  obtain ⟨bs, r2⟩ := Dp.reads I (.tuple ds) y u he ry
  exact SeqAt.notIn_tuple_reads r2 r1 (SeqAt.canLay_of_shaped se) (SeqAt.canLay_of_shaped sd) (room_in_shaped sd hu) ⟨.bl _, H, I, rfl, q⟩
theorem op_din (hu : X.A.units + 1 < cLine) : OpR X (compareOp .In) (fun y x H Q => ∃ a o, x = .ref a ∧ DGet H a y o ∧ Q (.bl o.isSome) H) := by
  rintro pins s σ H x y v u Q I rx ry ⟨a, o, rfl, g, q⟩
  cases (show u = _ from ry)
  exact d_in hu I g rx fun s3 I3 => ⟨.bl o.isSome, H, I3, rfl, q⟩
theorem op_dnotIn (hu : X.A.units + 1 < cLine) : OpR X (compareOp .NotIn) (fun y x H Q => ∃ a o, x = .ref a ∧ DGet H a y o ∧ Q (.bl (!o.isSome)) H) := by
  rintro pins s σ H x y v u Q I rx ry ⟨a, o, rfl, g, q⟩
  cases (show u = _ from ry)
  exact d_notIn hu I g rx fun s3 I3 => ⟨.bl (!o.isSome), H, I3, rfl, q⟩
theorem o_in (hu : X.A.units + 65 < cLine) : OpR X (compareOp .In) (l2 X.K X.mg inD) := o_inG (neg := false) op_in_sign (op_inD hu) (op_inDT hu) (op_din (by omega))
theorem o_notIn (hu : X.A.units + 65 < cLine) : OpR X (compareOp .NotIn) (l2 X.K X.mg notInD) := o_inG (neg := true) op_notIn_sign (op_notInD hu) (op_notInDT hu) (op_dnotIn (by omega))
theorem units65 {k : Nat} {A : Around} (r : Room k A) : A.units + 65 < cLine := by have := r.un; omega
theorem units64 {k : Nat} {A : Around} (r : Room k A) : A.units + 64 < cLine := by have := r.un; omega
theorem units1 {k : Nat} {A : Around} (r : Room k A) : A.units + 1 < cLine := by have := r.un; omega
/-! ### subscripts -/
theorem ix_dict (hu : X.A.units + 1 < cLine) : IxR X (fun x y H Q => ∃ a v, x = .ref a ∧ DGet H a y (some v) ∧ Q v H) := by
  rintro value slice pins s σ H x y v u Q I rx ry ⟨a, w, rfl, g, q⟩ hs
  cases (show v = _ from rx)
  exact tail_any (ops := [.ref a, u]) (dict_typeIs I g) PySem.F.slot_dict_getitem.lookup (d_getItem hu I g ry fun w' s3 I3 rw' => ⟨w, H, I3, rw', q⟩) hs
def ixD : R2T := fun x y h P => match x with
  | .tup ds => (match y with
    | .int i => (match atI ds i with
      | some d => P d h
      | none => False)
    | _ => False)
  | .scr ns => (match y with
    | .int i => (match atI ns i with
      | some n => P (.int n) h
      | none => False)
    | _ => False)
  | .str z => (match y with
    | .int i => z.length ≤ 100000 ∧ (match atI z.cps.toList i with
      | some c => P (.str ⟨#[c]⟩) h
      | none => False)
    | _ => False)
  | .ref p => (match h p with
    | some (.lst ds) => (match y with
      | .int i => (match atI ds i with
        | some d => P d h
        | none => False)
      | _ => False)
    | some (.dct kvs) => (match keyOf y with
      | some k => (match getK kvs k with
        | some d => P d h
        | none => False)
      | none => False)
    | _ => False)
  | _ => False
theorem atI_reps {K : PySem.W.Frag} {mg : Str → Option Value} {H : Hp} {ds : List D} {vs : List V} {i : Int} {d : D} (r : Reps K mg H ds vs) (e : atI ds i = some d) : ∃ v, atI vs i = some v ∧ Rep K mg H d v := by
  unfold atI at e ⊢
  rw [← r.length]
  cases q : ixN ds.length i with
  | none => rw [q] at e; cases e
  | some j => rw [q] at e; exact r.get e
theorem atI_map {α β : Type} {f : α → β} {xs : List α} {i : Int} {x : α} (e : atI xs i = some x) : atI (xs.map f) i = some (f x) := by
  unfold atI at e ⊢
  rw [List.length_map]
  cases q : ixN xs.length i with
  | none => rw [q] at e; cases e
  | some j =>
    rw [q] at e
    have e : xs[j]? = some x := e
    show (xs.map f)[j]? = some (f x)
    rw [List.getElem?_map, e]; rfl
theorem x_ix (hu : X.A.units + 1 < cLine) : IxR X (l2 X.K X.mg ixD) := by
  rintro value slice pins s σ H x y v u Q I rx ry ⟨a, b, h, P, ra, rb, hr, t, l⟩ hs
  unfold ixD at t
  split at t
  · split at t
    · split at t
      · rename_i d e1
        obtain ⟨p, vs, rfl, s1, r1⟩ := ra
        cases (show y = _ from rb)
        obtain ⟨w, e2, rw'⟩ := atI_reps r1 e1
        exact ix_tup value slice pins s σ H _ _ v u Q I rx ry ⟨p, vs, _, w, rfl, rfl, s1, e2, l.here t hr rw'⟩ hs
      · exact t.elim
    · exact t.elim
  · split at t
    · split at t
      · rename_i d e1
        obtain ⟨p, rfl, s1⟩ := ra
        cases (show y = _ from rb)
        exact ix_list value slice pins s σ H _ _ v u Q I rx ry ⟨p, _, _, _, rfl, rfl, s1.sq, atI_map e1, l.here t hr rfl⟩ hs
      · exact t.elim
    · exact t.elim
  · split at t
    · obtain ⟨hz, t⟩ := t
      split at t
      · rename_i c e1
        cases (show x = _ from ra)
        cases (show y = _ from rb)
        exact ix_str value slice pins s σ H _ _ v u Q I rx ry ⟨_, _, c, rfl, rfl, lin hz, e1, l.here t hr rfl⟩ hs
      · exact t.elim
    · exact t.elim
  · rename_i p
    cases (show x = _ from ra)
    split at t
    · rename_i ds q
      split at t
      · split at t
        · rename_i d e1
          obtain ⟨vs, s1, r1⟩ := lstAt hr q
          cases (show y = _ from rb)
          obtain ⟨w, e2, rw'⟩ := atI_reps r1 e1
          exact ix_list value slice pins s σ H _ _ v u Q I rx ry ⟨p, vs, _, w, rfl, rfl, SqL.of s1, e2, l.here t hr rw'⟩ hs
        · exact t.elim
      · exact t.elim
    · rename_i kvs q
      split at t
      · rename_i k ek
        split at t
        · rename_i d eg
          obtain ⟨ks, s1, r1⟩ := dctAt hr q
          cases key_of rb ek
          rcases r1.get (k := k) with ⟨d', w, g1, g2, rw'⟩ | ⟨g1, g2⟩
          · rw [g1] at eg; cases eg
            exact ix_dict hu value slice pins s σ H _ _ v u Q I rx ry ⟨p, w, rfl, by rw [← g2]; exact DGet.k s1, l.here t hr rw'⟩ hs
          · rw [g1] at eg; cases eg
        · exact t.elim
      · exact t.elim
    · exact t.elim
  · exact t.elim
theorem t_ix (hu : X.A.units + 1 < cLine) (ha : TPE X a ta) (hb : TPE X b tb) (hs : PlainIx b := by exact fun _ _ => rfl) : TPE X (.Subscript a b pos) (bBin ixD ta tb) := PE_weak (pe_ix (x_ix hu) ha hb hs) fun _ _ _ => comp2
/-! ### slices -/
abbrev TrO := TS0 → TH → (Option Int → TH → Prop) → Prop
def lO (K : PySem.W.Frag) (mg : Str → Option Value) (t : TrO) : L2.TO := fun σ H Q => ∃ ds h, ∃ P : Option Int → TH → Prop, SR K mg H ds σ ∧ HR K mg h H ∧ t ds h P ∧ ∀ o h' H', P o h' → HR K mg h' H' → TK K H H' → Q o H'
def bNo : TrO := fun _ h P => P none h
def bPart (t : TrE) : TrO := fun ds h P => t ds h fun d h1 => match d with
  | .int i => P (some i) h1
  | _ => False
theorem PO_weak {X : Cx} {e : Option Expr} {t t' : L2.TO} (h : PO X e t) (w : ∀ σ H Q, t' σ H Q → t σ H Q) : PO X e t' := ⟨fun pins s σ H Q I q => h.run pins s σ H Q I (w σ H Q q)⟩
theorem t_no : PO X none (lO X.K X.mg bNo) := by
  refine PO_weak po_none ?_
  rintro σ H Q ⟨ds, h, P, sr, hr, t, l⟩
  exact l _ _ _ t hr (TK.refl H)
theorem t_part (he : TPE X e ta) : PO X (some e) (lO X.K X.mg (bPart ta)) := by
  refine PO_weak (po_some he) ?_
  rintro σ H Q ⟨ds, h, P, sr, hr, t, l⟩
  refine ⟨ds, h, _, sr, hr, t, fun d h1 v H1 p1 hr1 k1 r1 => ?_⟩
  split at p1
  · exact ⟨_, r1, l _ _ _ p1 hr1 k1⟩
  · exact p1.elim
def cutT {α : Type} (xs : List α) (lo hi : Option Int) : List α := (xs.drop (HT.sIx xs.length 0 lo)).take (HT.sIx xs.length xs.length hi - HT.sIx xs.length 0 lo)
theorem cutT_reps {K : PySem.W.Frag} {mg : Str → Option Value} {H : Hp} {ds : List D} {vs : List V} (r : Reps K mg H ds vs) (lo hi : Option Int) : Reps K mg H (cutT ds lo hi) (cutV vs lo hi) := by
  unfold cutT cutV; rw [r.length]; exact (r.drop _).take _
theorem cutT_map {α β : Type} (f : α → β) (xs : List α) (lo hi : Option Int) : cutT (xs.map f) lo hi = (cutT xs lo hi).map f := by
  unfold cutT; rw [List.length_map, ← List.map_drop, ← List.map_take]
theorem cutT_whole {α : Type} {xs : List α} {lo hi : Option Int} (e : HT.sIx xs.length 0 lo = 0 ∧ HT.sIx xs.length xs.length hi = xs.length) : cutT xs lo hi = xs := by
  unfold cutT; rw [e.1, e.2]; simp
def slD (x : D) (lo hi : Option Int) (h : TH) (P : TQ) : Prop := match x with
  | .tup ds => P (.tup (cutT ds lo hi)) h
  | .scr ns => ∀ n, h n = none → P (.ref n) (put h n (.lst ((cutT ns lo hi).map D.int)))
  | .str z => z.length ≤ 100000 ∧ P (.str (cutS z lo hi)) h
  | .ref p => (match h p with
    | some (.lst ds) => ∀ n, h n = none → P (.ref n) (put h n (.lst (cutT ds lo hi)))
    | _ => False)
  | _ => False
def lSl (K : PySem.W.Frag) (mg : Str → Option Value) (r : D → Option Int → Option Int → TH → TQ → Prop) : V → Option Int → Option Int → Hp → VK → Prop := fun x lo hi H Q => ∃ a h P, Rep K mg H a x ∧ HR K mg h H ∧ r a lo hi h P ∧ Lift K mg H P Q
theorem x_sl : SlR X (lSl X.K X.mg slD) := by
  rintro pins s σ H x v vl vu lo hi sl Q I rx hs pl pu ⟨a, h, P, ra, hr, t, l⟩
  unfold slD at t
  split at t
  · rename_i ds
    obtain ⟨p, vs, rfl, s1, r1⟩ := ra
    refine sl_tupA pins s σ H _ v vl vu lo hi sl Q I rx hs pl pu ⟨p, vs, rfl, s1, fun e => ?_, fun _ n hn => ?_⟩
    · rw [← r1.length] at e
      rw [cutT_whole e] at t
      exact l.here t hr ⟨p, vs, rfl, s1, r1⟩
    · exact l.tup hr hn t (cutT_reps r1 lo hi)
  · rename_i ns
    obtain ⟨p, rfl, s1⟩ := ra
    refine sl_list pins s σ H _ v vl vu lo hi sl Q I rx hs pl pu ⟨p, _, rfl, s1.sq, fun n hn => ?_⟩
    refine l.alloc hr hn (t n (hr.none hn)) (newLst hn ?_)
    rw [← cutT_map]
    exact cutT_reps (Reps.ofInts ns) lo hi
  · cases (show x = _ from ra)
    exact sl_str pins s σ H _ v vl vu lo hi sl Q I rx hs pl pu ⟨_, rfl, lin t.1, l.here t.2 hr rfl⟩
  · rename_i p
    cases (show x = _ from ra)
    split at t
    · rename_i ds q
      obtain ⟨vs, s1, r1⟩ := lstAt hr q
      exact sl_list pins s σ H _ v vl vu lo hi sl Q I rx hs pl pu ⟨p, _, rfl, SqL.of s1, fun n hn => l.alloc hr hn (t n (hr.none hn)) (newLst hn (cutT_reps r1 lo hi))⟩
    · exact t.elim
  · exact t.elim
def bSl (ta : TrE) (tl tu : TrO) : TrE := fun ds h P => ta ds h fun x h1 => tl ds h1 fun lo h2 => tu ds h2 fun hi h3 => slD x lo hi h3 P
theorem t_sl {lo hi : Option Expr} {p2 : Pos} {tl tu : TrO} (ha : TPE X a ta) (hl : PO X lo (lO X.K X.mg tl)) (hh : PO X hi (lO X.K X.mg tu)) : TPE X (.Subscript a (.Slice lo hi none p2) pos) (bSl ta tl tu) := by
  refine PE_weak (pe_slice x_sl ha hl hh) ?_
  rintro σ H Q ⟨ds, h, P, sr, hr, t, l⟩
  refine ⟨ds, h, _, sr, hr, t, fun x h1 v H1 p1 hr1 k1 r1 => ⟨ds, h1, _, sr.tk k1, hr1, p1, fun lo h2 H2 p2 hr2 k2 => ⟨ds, h2, _, (sr.tk k1).tk k2, hr2, p2, fun hi h3 H3 p3 hr3 k3 => ?_⟩⟩⟩
  exact ⟨x, h3, P, r1.tk (k2.trans k3), hr3, p3, ((l.tk k1).tk k2).tk k3⟩
/-- xs[::-1] of a list -/
def bRev (ta : TrE) : TrE := fun ds h P => ta ds h fun x h1 => match x with
  | .ref p => (match h1 p with
    | some (.lst xs) => ∀ n, h1 n = none → P (.ref n) (put h1 n (.lst xs.reverse))
    | _ => False)
  | _ => False
theorem t_rev {k : Nat} {p1 p2 p3 : Pos} (he : TPE X e ta) : TPE X (.Subscript e (.Slice none none (some (.UnaryOp .USub (.Constant (.int 1) k p1) p2)) p3) pos) (bRev ta) := by
  refine PE_weak (pe_revL he) ?_
  rintro σ H Q ⟨ds, h, P, sr, hr, t, l⟩
  refine ⟨ds, h, _, sr, hr, t, fun x h1 v H1 p1 hr1 k1 r1 => ?_⟩
  split at p1
  · rename_i p
    split at p1
    · rename_i xs q
      obtain ⟨vs, s1, r2⟩ := lstAt hr1 q
      exact ⟨p, vs, r1, SqL.of s1, fun n hn => (l.tk k1).alloc hr1 hn (p1 n (hr1.none hn)) (newLst hn r2.reverse)⟩
    · exact p1.elim
  · exact p1.elim
end
end T
set_option Elab.async false
set_option linter.all false
set_option maxRecDepth 100000
set_option maxHeartbeats 1000000
namespace T
open PySem L2 PyProof.Rows
/-! ### contracts -/
abbrev Con := List D → TH → TQ → Prop
def toSp (K : PySem.W.Frag) (mg : Str → Option Value) (c : Con) : Sp := fun vs H Q _ => lR K mg c vs H Q
def startT (n : Nat) (ds : List D) : TS0 := ds.map some ++ List.replicate (n - ds.length) none
/-- what stands behind a call, less what nobody asks for -/
def less (P : TQ) : TQ := fun d h => ∃ h', Sub h' h ∧ P d h'
theorem sr_start {K : PySem.W.Frag} {mg : Str → Option Value} {H : Hp} {N : List Str} {ds : List D} {vs : List V} (r : Reps K mg H ds vs) : SR K mg H (startT N.length ds) (L2.start N vs) := by
  have hl := r.length
  refine ⟨by simp [startT, L2.start, hl], fun i d e => ?_⟩
  unfold startT at e
  unfold L2.start
  by_cases z : i < ds.length
  · rw [List.getElem?_append_left (by simpa using z), List.getElem?_map] at e
    rw [List.getElem?_append_left (by rw [List.length_map, ← hl]; exact z), List.getElem?_map]
    cases q : ds[i]? with
    | none => rw [q] at e; cases e
    | some d' =>
      rw [q] at e; cases e
      obtain ⟨v, e1, e2⟩ := r.get q
      exact ⟨v, by rw [e1]; rfl, e2⟩
  · rw [List.getElem?_append_right (by simpa using z), List.getElem?_replicate] at e
    split at e <;> cases e
section
variable {P : Program} {w : World} {K : PySem.W.Frag} {mg : Str → Option Value} {base : Heap} {x qual : Str} {params : Arguments} {body : List Stmt} {scope : Scope} {dvs : List V} {kws : List (Str × V)} {f : Addr} {fd : FuncData}
/-- THE RULE for a def: tt its body over trees, c its contract -/
theorem okT {N ps : List Str} {k : Nat} {c : Con} {tt : TrS} (F : FunD K x qual params body scope dvs kws f fd) (S : FnScope N ps scope) (len : ∀ ds h Q, c ds h Q → ds.length = ps.length)
    (hbody : ∀ (cdv : Value) (A : Around) (outer : List Env) (s : Shared) (H : Hp) (E : XK), Room k (A.deeper (envOfC qual scope s.heap.objs.size f cdv)) → TPSs (cxOf CX0 P w K mg base N qual scope f cdv A outer s H E).nox body tt)
    (hc : ∀ ds h Q, c ds h Q → tt { nx := fun _ h' => less Q .non h', rt := less Q } (startT N.length ds) h) : FnOk P w K mg base CX0 (k + 1) f fd ps (toSp K mg c) := by
  refine F.ok S (fun vs H Q E ⟨ds, h, Pq, r, hr, cc, l⟩ => by rw [← r.length]; exact len _ _ _ cc) (fun cdv A outer s H vs Q E hr h => ?_)
  obtain ⟨ds, h, Pq, r, hh, cc, l⟩ := h
  refine ⟨_, (hbody cdv A outer s H E hr).nox, ?_⟩
  have go : ∀ (d : D) (h1 : TH) (v : V) (H1 : Hp), less Pq d h1 → HR K mg h1 H1 → TK K H H1 → Rep K mg H1 d v → Q v H1 := fun d h1 v H1 ⟨h2, s2, p2⟩ a b e => l d h2 v H1 p2 (a.sub s2) b e
  refine ⟨startT N.length ds, h, { nx := fun _ h' => less Pq .non h', rt := less Pq }, sr_start r, hh, hc _ _ _ cc, fun ds' h' σ' H' p' _ a b => ?_, go, fun _ _ _ _ z => z.elim, fun _ _ _ _ z => z.elim⟩
  exact go _ _ _ _ p' a b rfl
end
/-- a def of the module as its callers know it: its name, its defaults, its contract -/
def Cal (P : Program) (w : World) (K : PySem.W.Frag) (mg : Str → Option Value) (base : Heap) (k : Nat) (x : Str) (dvs : List D) (c : Con) : Prop :=
  ∃ f fd ps ds vs, FnOk P w K mg base CX0 k f fd ps (toSp K mg c) ∧ mg x = some (.ref f) ∧ PySem.W.keepIn K (.ref f) = true ∧ Binds K fd ps ds ∧ Vals vs ds ∧ ∀ H, Reps K mg H dvs vs
/-- a method of the class cn -/
def MCal (P : Program) (w : World) (K : PySem.W.Frag) (mg : Str → Option Value) (base : Heap) (k : Nat) (cn m : Str) (dvs : List D) (c : Con) : Prop :=
  ∃ C f fd ps ds vs, FnOk P w K mg base CX0 k f fd ps (toSp K mg c) ∧ mg cn = some (.ref C) ∧ Cls K C ∧ Meth K C m f ∧ Binds K fd ps ds ∧ Vals vs ds ∧ ∀ H, Reps K mg H dvs vs
/-- its making -/
def KCal (P : Program) (w : World) (K : PySem.W.Frag) (mg : Str → Option Value) (base : Heap) (k : Nat) (cn : Str) (dvs : List D) (c : Con) : Prop :=
  ∃ C f fd ps ds vs, FnOk P w K mg base CX0 k f fd ps (toSp K mg c) ∧ mg cn = some (.ref C) ∧ Mk K C f ∧ Binds K fd ps ds ∧ Vals vs ds ∧ ∀ H, Reps K mg H dvs vs
/-- a property of it -/
def PCal (P : Program) (w : World) (K : PySem.W.Frag) (mg : Str → Option Value) (base : Heap) (k : Nat) (cn m : Str) (c : Con) : Prop :=
  ∃ C p f fd ps, FnOk P w K mg base CX0 k f fd ps (toSp K mg c) ∧ mg cn = some (.ref C) ∧ Cls K C ∧ PropOf K C m p f ∧ Binds K fd ps []
def ClsF (K : PySem.W.Frag) (mg : Str → Option Value) (cn : Str) : Prop := ∃ C, mg cn = some (.ref C) ∧ Cls K C
def NoF (K : PySem.W.Frag) (mg : Str → Option Value) (cn f : Str) : Prop := ∃ C, mg cn = some (.ref C) ∧ NoAttr K C f
section
variable {K : PySem.W.Frag} {mg : Str → Option Value} {H : Hp} {h : TH}
theorem ref_inj {a b : Addr} {o : Option Value} (h1 : o = some (.ref a)) (h2 : o = some (.ref b)) : a = b := by rw [h1] at h2; injection h2 with h2; injection h2
theorem FR.lookup {κ : Type} [BEq κ] [LawfulBEq κ] {f : κ} : ∀ {xs : List (κ × D)} {ys : List (κ × V)}, FR K mg H κ xs ys → (∃ d v, xs.lookup f = some d ∧ ys.lookup f = some v ∧ Rep K mg H d v) ∨ (xs.lookup f = none ∧ ys.lookup f = none)
  | _, _, .nil => .inr ⟨rfl, rfl⟩
  | (x, d) :: xs, (y, v) :: ys, .cons a t => by
    obtain ⟨e, r⟩ := a
    cases (show x = y from e)
    rw [List.lookup_cons, List.lookup_cons]
    cases q : f == x with
    | true => exact .inl ⟨d, v, rfl, rfl, r⟩
    | false => exact FR.lookup t
theorem insAt {p : Addr} {c : Str} {fs : List (Str × D)} (hr : HR K mg h H) (e : h p = some (.ins c fs)) : ∃ C dx gs, mg c = some (.ref C) ∧ H p = some (.ins C dx gs) ∧ FR K mg H Str fs gs := hr p _ e
end
section
variable {X : Cx} {a b e : Expr} {es : List Expr} {ta tb : TrE} {tr : TrA} {pos p apos : Pos} {k : Nat} {x : Str} {c : Con} {dvs : List D}
def bCall (c : Con) (dvs : List D) (tr : TrA) : TrE := fun ds h P => tr ds h fun xs h1 => c (xs ++ dvs) h1 P
theorem t_call (F : Cal X.prog X.w X.K X.mg X.base k x dvs c) (hr : Room k X.A) (ha : TPA X (e :: es) tr) (hg : Gl X x := by rfl)
    (hdb : (x == ("__debug__" : Str)) = false := by decide) (he : starEach (e :: es) X.env = (false, eval e X.env) :: starEach es X.env := by rfl) (hpl : (backTo pos (starEach es X.env)).any (·.1) = false := by rfl) :
    TPE X (.Call (.Name x p) (e :: es) [] pos) (bCall c dvs tr) := by
  obtain ⟨f, fd, ps, dl, vs, G, hm, hk, hb, hd, rd⟩ := F
  refine PE_weak (pe_call G hr hg hm hk hb hd pass0 ha hdb he hpl) ?_
  rintro σ H Q ⟨ds, h, P, sr, hr, t, l⟩
  exact ⟨ds, h, _, sr, hr, t, fun xs h1 us H1 p1 hr1 k1 r1 => ⟨xs ++ dvs, h1, P, r1.append (rd H1), hr1, p1, l.tk k1⟩⟩
theorem t_call0 (F : Cal X.prog X.w X.K X.mg X.base k x dvs c) (hr : Room k X.A) (hg : Gl X x := by rfl) (hdb : (x == ("__debug__" : Str)) = false := by decide) :
    TPE X (.Call (.Name x p) [] [] pos) (bCall c dvs bNil) := by
  obtain ⟨f, fd, ps, dl, vs, G, hm, hk, hb, hd, rd⟩ := F
  refine PE_weak (pe_call0 G hr hg hm hk hb hd pass0 hdb) ?_
  rintro σ H Q ⟨ds, h, P, sr, hr, t, l⟩
  exact ⟨dvs, h, P, rd H, hr, t, l⟩
/-- o.m(..) -/
def bMeth (cn m : Str) (c : Con) (dvs : List D) (ta : TrE) (tr : TrA) : TrE := fun ds h P => ta ds h fun x h1 => match x with
  | .ref p => (match h1 p with
    | some (.ins c' fs) => c' = cn ∧ fs.lookup m = none ∧ tr ds h1 fun xs h2 => c (x :: (xs ++ dvs)) h2 P
    | _ => False)
  | _ => False
theorem t_meth {cn m : Str} {pl : Sem Bool} (F : MCal X.prog X.w X.K X.mg X.base k cn m dvs c) (hr : Room k X.A) (ho : TPE X a ta) (ha : TPA X (e :: es) tr)
    (hst : starEach (e :: es) X.env = (false, eval e X.env) :: starEach es X.env := by rfl) (hpl : (backTo pos (starEach es X.env)).any (·.1) = false := by rfl)
    (ht : eval (.Call (.Attribute a m apos) (e :: es) [] pos) X.env = (do
      let ov ← eval a X.env
      standAt apos.atName
      let (f, first) ← holding [ov] (getMethod ov m pl)
      callWith pos f first (backTo pos (starEach (e :: es) X.env)) (backToKw pos (keywordEach [] X.env))) := by rfl) :
    TPE X (.Call (.Attribute a m apos) (e :: es) [] pos) (bMeth cn m c dvs ta tr) := by
  obtain ⟨C, f, fd, ps, dl, vs, G, gm, hC, hm, hb, hd, rd⟩ := F
  refine PE_weak (pe_meth (pl := pl) ho hC hm G hr hb hd pass0 ha hst hpl ht) ?_
  rintro σ H Q ⟨ds, h, P, sr, hr, t, l⟩
  refine ⟨ds, h, _, sr, hr, t, fun x h1 v H1 p1 hr1 k1 r1 => ?_⟩
  split at p1
  · rename_i p
    split at p1
    · rename_i c' fs q
      obtain ⟨rfl, hl, p1⟩ := p1
      obtain ⟨C', dx, gs, gm', e1, rf⟩ := insAt hr1 q
      cases ref_inj gm gm'
      refine ⟨p, dx, gs, r1, e1, ?_, ds, h1, _, sr.tk k1, hr1, p1, fun xs h2 us H2 p2 hr2 k2 r2 => ?_⟩
      · rcases rf.lookup (f := m) with ⟨d, w, g1, g2, _⟩ | ⟨_, g2⟩
        · rw [hl] at g1; cases g1
        · exact g2
      · exact ⟨_, h2, P, .cons (r1.tk k2) (r2.append (rd H2)), hr2, p2, (l.tk k1).tk k2⟩
    · exact p1.elim
  · exact p1.elim
theorem t_meth0 {cn m : Str} {pl : Sem Bool} (F : MCal X.prog X.w X.K X.mg X.base k cn m dvs c) (hr : Room k X.A) (ho : TPE X a ta)
    (ht : eval (.Call (.Attribute a m apos) [] [] pos) X.env = (do
      let ov ← eval a X.env
      standAt apos.atName
      let (f, first) ← holding [ov] (getMethod ov m pl)
      callWith pos f first (backTo pos (starEach [] X.env)) (backToKw pos (keywordEach [] X.env))) := by rfl) :
    TPE X (.Call (.Attribute a m apos) [] [] pos) (bMeth cn m c dvs ta bNil) := by
  obtain ⟨C, f, fd, ps, dl, vs, G, gm, hC, hm, hb, hd, rd⟩ := F
  refine PE_weak (pe_meth0 (pl := pl) ho hC hm G hr hb hd pass0 ht) ?_
  rintro σ H Q ⟨ds, h, P, sr, hr, t, l⟩
  refine ⟨ds, h, _, sr, hr, t, fun x h1 v H1 p1 hr1 k1 r1 => ?_⟩
  split at p1
  · rename_i p
    split at p1
    · rename_i c' fs q
      obtain ⟨rfl, hl, p1⟩ := p1
      obtain ⟨C', dx, gs, gm', e1, rf⟩ := insAt hr1 q
      cases ref_inj gm gm'
      refine ⟨p, dx, gs, r1, e1, ?_, ?_⟩
      · rcases rf.lookup (f := m) with ⟨d, w, g1, g2, _⟩ | ⟨_, g2⟩
        · rw [hl] at g1; cases g1
        · exact g2
      · exact ⟨_, h1, P, .cons r1 (rd H1), hr1, p1, l.tk k1⟩
    · exact p1.elim
  · exact p1.elim
/-- C(..) -/
def bMake (cn : Str) (c : Con) (dvs : List D) (tr : TrA) : TrE := fun ds h P => tr ds h fun xs h1 => ∀ q, h1 q = none → c (.ref q :: (xs ++ dvs)) (put h1 q (.ins cn [])) fun d h2 => d = .non ∧ P (.ref q) h2
theorem make_of {K : PySem.W.Frag} {mg : Str → Option Value} {cn : Str} {C : Addr} {h1 : TH} {H1 : Hp} {xs : List D} {us vs : List V} {P : TQ} {Q : VK} {E : XK} (gm : mg cn = some (.ref C)) (hr1 : HR K mg h1 H1) (r1 : Reps K mg H1 xs us) (rd : ∀ H, Reps K mg H dvs vs)
    (p1 : ∀ q, h1 q = none → c (.ref q :: (xs ++ dvs)) (put h1 q (.ins cn [])) fun d h2 => d = .non ∧ P (.ref q) h2) (l : Lift K mg H1 P Q) :
    ∀ x dx, H1 x = none → H1 dx = none → dx ≠ x → toSp K mg c (.ref x :: (us ++ vs)) (upd (upd H1 dx (.own x)) x (.ins C dx [])) (fun v H2 => v = .non ∧ Q (.ref x) H2) E := by
  intro x dx nx nd ne
  have k1 : TK K H1 (upd H1 dx (.own x)) := TK.new nd
  have nx' : upd H1 dx (.own x) x = none := by rw [upd_ne ne.symm]; exact nx
  have k2 : TK K H1 (upd (upd H1 dx (.own x)) x (.ins C dx [])) := k1.trans (TK.new nx')
  have hr2 : HR K mg (put h1 x (.ins cn [])) (upd (upd H1 dx (.own x)) x (.ins C dx [])) := (hr1.new nd).upd (TK.new nx') ⟨C, dx, [], gm, upd_same, .nil⟩
  refine ⟨.ref x :: (xs ++ dvs), _, _, .cons rfl ((r1.tk k2).append (rd _)), hr2, p1 x (hr1.none nx), fun d h2 v H2 ⟨e, p2⟩ hr3 k3 r3 => ?_⟩
  subst e
  exact ⟨r3, l _ _ _ _ p2 hr3 (k2.trans k3) rfl⟩
theorem t_make {cn : Str} (F : KCal X.prog X.w X.K X.mg X.base k cn dvs c) (hr : Room (k + 1) X.A) (ha : TPA X (e :: es) tr) (hg : Gl X cn := by rfl)
    (hdb : (cn == ("__debug__" : Str)) = false := by decide) (he : starEach (e :: es) X.env = (false, eval e X.env) :: starEach es X.env := by rfl) (hpl : (backTo pos (starEach es X.env)).any (·.1) = false := by rfl) :
    TPE X (.Call (.Name cn p) (e :: es) [] pos) (bMake cn c dvs tr) := by
  obtain ⟨C, f, fd, ps, dl, vs, G, gm, M, hb, hd, rd⟩ := F
  refine PE_weak (pe_make M G hr hg gm hb hd pass0 ha hdb he hpl) ?_
  rintro σ H Q ⟨ds, h, P, sr, hr, t, l⟩
  exact ⟨ds, h, _, sr, hr, t, fun xs h1 us H1 p1 hr1 k1 r1 => make_of gm hr1 r1 rd p1 (l.tk k1)⟩
/-- o.f, a field -/
def bFld (cn f : Str) (ta : TrE) : TrE := fun ds h P => ta ds h fun x h1 => match x with
  | .ref p => (match h1 p with
    | some (.ins c' fs) => c' = cn ∧ (match fs.lookup f with
      | some d => P d h1
      | none => False)
    | _ => False)
  | _ => False
theorem t_fld {cn f : Str} (hc : ClsF X.K X.mg cn) (hn : NoF X.K X.mg cn f) (ha : TPE X a ta) (hb : attributeBase a f X.env (eval a X.env) = eval a X.env := by rfl) : TPE X (.Attribute a f pos) (bFld cn f ta) := by
  obtain ⟨C, gm, cl⟩ := hc
  obtain ⟨C2, gm2, no⟩ := hn
  cases ref_inj gm gm2
  refine PE_weak (pe_fld ha hb) ?_
  rintro σ H Q ⟨ds, h, P, sr, hr, t, l⟩
  refine ⟨ds, h, _, sr, hr, t, fun x h1 v H1 p1 hr1 k1 r1 => ?_⟩
  split at p1
  · rename_i p
    split at p1
    · rename_i c' fs q
      obtain ⟨rfl, p1⟩ := p1
      split at p1
      · rename_i d eq
        obtain ⟨C', dx, gs, gm', e1, rf⟩ := insAt hr1 q
        cases ref_inj gm gm'
        rcases rf.lookup (f := f) with ⟨d', w, g1, g2, rw'⟩ | ⟨g1, _⟩
        · rw [g1] at eq; cases eq
          exact ⟨p, C, dx, gs, w, r1, e1, cl, no, g2, (l.tk k1).here p1 hr1 rw'⟩
        · rw [g1] at eq; cases eq
      · exact p1.elim
    · exact p1.elim
  · exact p1.elim
/-- o.f, a property -/
def bProp (cn : Str) (c : Con) (ta : TrE) : TrE := fun ds h P => ta ds h fun x h1 => match x with
  | .ref p => (match h1 p with
    | some (.ins c' fs) => c' = cn ∧ c [x] h1 P
    | _ => False)
  | _ => False
theorem t_prop {cn f : Str} (F : PCal X.prog X.w X.K X.mg X.base k cn f c) (hr : Room (k + 1) X.A) (ha : TPE X a ta) (hb : attributeBase a f X.env (eval a X.env) = eval a X.env := by rfl) : TPE X (.Attribute a f pos) (bProp cn c ta) := by
  obtain ⟨C, pp, fa, fd, ps, G, gm, cl, hp, hbi⟩ := F
  refine PE_weak (pe_prop ha cl hp G hr hbi .nil pass0 hb) ?_
  rintro σ H Q ⟨ds, h, P, sr, hr, t, l⟩
  refine ⟨ds, h, _, sr, hr, t, fun x h1 v H1 p1 hr1 k1 r1 => ?_⟩
  split at p1
  · rename_i p
    split at p1
    · rename_i c' fs q
      obtain ⟨rfl, p1⟩ := p1
      obtain ⟨C', dx, gs, gm', e1, rf⟩ := insAt hr1 q
      cases ref_inj gm gm'
      exact ⟨p, dx, gs, r1, e1, [.ref p], h1, P, .cons rfl .nil, hr1, p1, l.tk k1⟩
    · exact p1.elim
  · exact p1.elim
/-! ### built-in functions -/
def bBlt (r : RAT) (tr : TrA) : TrE := fun ds h P => tr ds h fun xs h1 => r xs h1 P
theorem compB {K : PySem.W.Frag} {mg : Str → Option Value} {r : RAT} {σ : L2.St} {H : Hp} {Q : VK} (q : lE K mg (bBlt r tr) σ H Q) : L2.tCB (lR K mg r) (lA K mg tr) σ H Q := by
  obtain ⟨ds, h, P, sr, hr, t, l⟩ := q
  exact ⟨ds, h, _, sr, hr, t, fun xs h1 us H1 p1 hr1 k1 r1 => ⟨xs, h1, P, r1, hr1, p1, l.tk k1⟩⟩
theorem t_blt {id : String} {r : RAT} (hc : CallR X (.builtin id) (lR X.K X.mg r)) (hm : X.mg x = none) (ha : TPA X (e :: es) tr) (hv : bootBuiltins x = some (.builtin id) := by decide +kernel) (hg : Gl X x := by rfl) (hn : x ≠ "__name__" := by decide) (hdb : (x == ("__debug__" : Str)) = false := by decide)
    (he : starEach (e :: es) X.env = (false, eval e X.env) :: starEach es X.env := by rfl) (hpl : (backTo pos (starEach es X.env)).any (·.1) = false := by rfl) : TPE X (.Call (.Name x p) (e :: es) [] pos) (bBlt r tr) :=
  PE_weak (pe_callB hc hg hm hv ha hn hdb he hpl) fun _ _ _ => compB
theorem t_bty {id : String} {r : RAT} (hc : CallR X (.type id) (lR X.K X.mg r)) (hm : X.mg x = none) (ha : TPA X (e :: es) tr) (hv : bootBuiltins x = some (.type id) := by decide +kernel) (hg : Gl X x := by rfl) (hn : x ≠ "__name__" := by decide) (hdb : (x == ("__debug__" : Str)) = false := by decide)
    (he : starEach (e :: es) X.env = (false, eval e X.env) :: starEach es X.env := by rfl) (hpl : (backTo pos (starEach es X.env)).any (·.1) = false := by rfl) : TPE X (.Call (.Name x p) (e :: es) [] pos) (bBlt r tr) :=
  PE_weak (pe_callTy hc hg hm hv ha hn hdb he hpl) fun _ _ _ => compB
theorem t_ty {id : String} (hm : X.mg x = none) (hv : bootBuiltins x = some (.type id) := by decide +kernel) (hg : Gl X x := by rfl) (hn : x ≠ "__name__" := by decide) (hdb : (x == ("__debug__" : Str)) = false := by decide) : TPE X (.Name x pos) (bC (.ty id)) :=
  t_const (pe_bltn (v := .ty id) hg hm hv rfl hn hdb) fun _ => rfl
end
end T
set_option Elab.async false
set_option linter.all false
set_option maxRecDepth 100000
set_option maxHeartbeats 1000000
namespace T
open PySem L2 PyProof.Rows
section
variable {X : Cx}
theorem reps1 {K : PySem.W.Frag} {mg : Str → Option Value} {H : Hp} {d : D} {vs : List V} (r : Reps K mg H [d] vs) : ∃ v, vs = [v] ∧ Rep K mg H d v := by
  obtain ⟨v, w, rfl, a, b⟩ := r; cases b; exact ⟨v, rfl, a⟩
theorem reps2 {K : PySem.W.Frag} {mg : Str → Option Value} {H : Hp} {d e : D} {vs : List V} (r : Reps K mg H [d, e] vs) : ∃ v u, vs = [v, u] ∧ Rep K mg H d v ∧ Rep K mg H e u := by
  obtain ⟨v, w, rfl, a, b⟩ := r
  obtain ⟨u, rfl, q⟩ := reps1 b
  exact ⟨v, u, rfl, a, q⟩
/-! ### len -/
def lenD : RAT := fun xs h P => match xs with
  | [.str z] => z.length ≤ 100000 ∧ P (.int z.length) h
  | [.tup ds] => P (.int ds.length) h
  | [.scr ns] => P (.int ns.length) h
  | [.ref p] => (match h p with
    | some (.lst ds) => P (.int ds.length) h
    | some (.dct kvs) => P (.int kvs.length) h
    | _ => False)
  | _ => False
theorem b_len : CallR X (.builtin "len") (lR X.K X.mg lenD) := by
  rintro pins s σ H xs us Q I r ⟨ds, h, P, rr, hr, t, l⟩
  unfold lenD at t
  split at t
  · obtain ⟨v, rfl, ra⟩ := reps1 rr
    cases (show v = _ from ra)
    exact call_len_str pins s σ H _ us Q I r ⟨_, rfl, lin t.1, l.here t.2 hr rfl⟩
  · obtain ⟨v, rfl, p, vs, rfl, s1, r1⟩ := reps1 rr
    exact call_len_seq pins s σ H _ us Q I r ⟨p, vs, rfl, .inr s1, l.here t hr (by rw [r1.length]; rfl)⟩
  · obtain ⟨v, rfl, p, rfl, s1⟩ := reps1 rr
    exact call_len_seq pins s σ H _ us Q I r ⟨p, _, rfl, .inl s1.sq, l.here t hr (by rw [List.length_map]; rfl)⟩
  · rename_i p
    obtain ⟨v, rfl, ra⟩ := reps1 rr
    cases (show v = _ from ra)
    split at t
    · rename_i q
      obtain ⟨vs, s1, r1⟩ := lstAt hr q
      exact call_len_seq pins s σ H _ us Q I r ⟨p, vs, rfl, .inl (SqL.of s1), l.here t hr (by rw [r1.length]; rfl)⟩
    · rename_i q
      obtain ⟨ks, s1, r1⟩ := dctAt hr q
      exact call_lenD pins s σ H _ us Q I r ⟨p, ks, rfl, s1, l.here t hr (by rw [r1.length]; rfl)⟩
    · exact t.elim
  · exact t.elim
/-! ### abs, max, min, divmod of ints -/
def absD : RAT := fun xs h P => match xs with
  | [.int i] => P (.int (if i < 0 then -i else i)) h
  | _ => False
theorem b_abs : CallR X (.builtin "abs") (lR X.K X.mg absD) := by
  rintro pins s σ H xs us Q I r ⟨ds, h, P, rr, hr, t, l⟩
  unfold absD at t
  split at t
  · obtain ⟨v, rfl, ra⟩ := reps1 rr
    cases (show v = _ from ra)
    exact call_abs pins s σ H _ us Q I r ⟨_, rfl, l.here t hr rfl⟩
  · exact t.elim
def maxI (ns : List Int) : Option Int := ns.max?
def minI (ns : List Int) : Option Int := ns.min?
def intsOf : List D → Option (List Int)
  | [] => some []
  | .int i :: r => (intsOf r).map (i :: ·)
  | _ => none
theorem intsOf_map : ∀ ns : List Int, intsOf (ns.map D.int) = some ns
  | [] => rfl
  | n :: ns => by show (intsOf (ns.map D.int)).map (n :: ·) = _; rw [intsOf_map ns]; rfl
theorem intsOf_eq : ∀ {ds : List D} {ns : List Int}, intsOf ds = some ns → ds = ns.map D.int
  | [], ns, e => by cases e; rfl
  | d :: ds, ns, e => by
    cases d with
    | int i =>
      have e : (intsOf ds).map (i :: ·) = some ns := e
      cases q : intsOf ds with
      | none => rw [q] at e; cases e
      | some ms => rw [q] at e; cases e; rw [intsOf_eq q]; rfl
    | _ => exact absurd e (by simp [intsOf])
def maxD : RAT := fun xs h P => match xs with
  | [.int i, .int j] => P (.int (if j > i then j else i)) h
  | [.ref p] => (match h p with
    | some (.lst ds) => (match intsOf ds with
      | some ns => (match ns.max? with
        | some m => P (.int m) h
        | none => False)
      | none => False)
    | _ => False)
  | _ => False
theorem b_max (hc : X.calm = true) : CallR X (.builtin "max") (lR X.K X.mg maxD) := by
  rintro pins s σ H xs us Q I r ⟨ds, h, P, rr, hr, t, l⟩
  unfold maxD at t
  split at t
  · obtain ⟨v, u, rfl, ra, rb⟩ := reps2 rr
    cases (show v = _ from ra); cases (show u = _ from rb)
    exact call_max2 hc pins s σ H _ us Q I r ⟨_, _, rfl, l.here t hr rfl⟩
  · rename_i p
    obtain ⟨v, rfl, ra⟩ := reps1 rr
    cases (show v = _ from ra)
    split at t
    · rename_i ds q
      obtain ⟨vs, s1, r1⟩ := lstAt hr q
      split at t
      · rename_i ns en
        cases intsOf_eq en
        cases r1.ints
        split at t
        · rename_i m em
          have hm := List.max?_eq_some_iff.mp em
          refine cr_max hc pins s σ H _ us Q I r ⟨p, ns, rfl, SqL.of s1, List.length_pos_of_mem hm.1, fun m' h1 h2 => ?_⟩
          have : m' = m := Int.le_antisymm (hm.2 m' h1) (h2 m hm.1)
          subst this
          exact l.here t hr rfl
        · exact t.elim
      · exact t.elim
    · exact t.elim
  · exact t.elim
def minD : RAT := fun xs h P => match xs with
  | [.int i, .int j] => P (.int (if j < i then j else i)) h
  | [.ref p] => (match h p with
    | some (.lst ds) => (match intsOf ds with
      | some ns => (match ns.min? with
        | some m => P (.int m) h
        | none => False)
      | none => False)
    | _ => False)
  | _ => False
theorem b_min (hc : X.calm = true) : CallR X (.builtin "min") (lR X.K X.mg minD) := by
  rintro pins s σ H xs us Q I r ⟨ds, h, P, rr, hr, t, l⟩
  unfold minD at t
  split at t
  · obtain ⟨v, u, rfl, ra, rb⟩ := reps2 rr
    cases (show v = _ from ra); cases (show u = _ from rb)
    exact call_min2 hc pins s σ H _ us Q I r ⟨_, _, rfl, l.here t hr rfl⟩
  · rename_i p
    obtain ⟨v, rfl, ra⟩ := reps1 rr
    cases (show v = _ from ra)
    split at t
    · rename_i ds q
      obtain ⟨vs, s1, r1⟩ := lstAt hr q
      split at t
      · rename_i ns en
        cases intsOf_eq en
        cases r1.ints
        split at t
        · rename_i m em
          have hm := List.min?_eq_some_iff.mp em
          refine cr_min hc pins s σ H _ us Q I r ⟨p, ns, rfl, SqL.of s1, List.length_pos_of_mem hm.1, fun m' h1 h2 => ?_⟩
          have : m' = m := Int.le_antisymm (h2 m hm.1) (hm.2 m' h1)
          subst this
          exact l.here t hr rfl
        · exact t.elim
      · exact t.elim
    · exact t.elim
  · exact t.elim
def divmodD : RAT := fun xs h P => match xs with
  | [.int i, .int j] => (0 < j ∧ j < 1073741824) ∧ P (.tup [.int (i / j), .int (i % j)]) h
  | _ => False
theorem b_divmod : CallR X (.builtin "divmod") (lR X.K X.mg divmodD) := by
  rintro pins s σ H xs us Q I r ⟨ds, h, P, rr, hr, t, l⟩
  unfold divmodD at t
  split at t
  · obtain ⟨v, u, rfl, ra, rb⟩ := reps2 rr
    cases (show v = _ from ra); cases (show u = _ from rb)
    exact call_divmod pins s σ H _ us Q I r ⟨_, _, rfl, t.1, fun p hp => l.tup hr hp t.2 (.cons rfl (.cons rfl .nil))⟩
  · exact t.elim
/-! ### list, tuple -/
def listD : RAT := fun xs h P => match xs with
  | [.tup ds] => ∀ n, h n = none → P (.ref n) (put h n (.lst ds))
  | [.scr ns] => ∀ n, h n = none → P (.ref n) (put h n (.lst (ns.map D.int)))
  | [.ref p] => (match h p with
    | some (.lst ds) => ∀ n, h n = none → P (.ref n) (put h n (.lst ds))
    | _ => False)
  | _ => False
theorem b_list : CallR X (.type "list") (lR X.K X.mg listD) := by
  rintro pins s σ H xs us Q I r ⟨ds, h, P, rr, hr, t, l⟩
  unfold listD at t
  split at t
  · obtain ⟨v, rfl, p, vs, rfl, s1, r1⟩ := reps1 rr
    exact call_list_of pins s σ H _ us Q I r ⟨p, vs, rfl, .inr s1, fun n hn => l.alloc hr hn (t n (hr.none hn)) (newLst hn r1)⟩
  · obtain ⟨v, rfl, p, rfl, s1⟩ := reps1 rr
    exact call_list_of pins s σ H _ us Q I r ⟨p, _, rfl, .inl s1.sq, fun n hn => l.alloc hr hn (t n (hr.none hn)) (newLst hn (Reps.ofInts _))⟩
  · rename_i p
    obtain ⟨v, rfl, ra⟩ := reps1 rr
    cases (show v = _ from ra)
    split at t
    · rename_i q
      obtain ⟨vs, s1, r1⟩ := lstAt hr q
      exact call_list_of pins s σ H _ us Q I r ⟨p, vs, rfl, .inl (SqL.of s1), fun n hn => l.alloc hr hn (t n (hr.none hn)) (newLst hn r1)⟩
    · exact t.elim
  · exact t.elim
def tupleD : RAT := fun xs h P => match xs with
  | [.tup ds] => P (.tup ds) h
  | [.ref p] => (match h p with
    | some (.lst ds) => P (.tup ds) h
    | _ => False)
  | _ => False
theorem b_tuple : CallR X (.type "tuple") (lR X.K X.mg tupleD) := by
  rintro pins s σ H xs us Q I r ⟨ds, h, P, rr, hr, t, l⟩
  unfold tupleD at t
  split at t
  · obtain ⟨v, rfl, p, vs, rfl, s1, r1⟩ := reps1 rr
    exact call_tuple_of pins s σ H _ us Q I r ⟨p, vs, rfl, .inr ⟨s1, l.here t hr ⟨p, vs, rfl, s1, r1⟩⟩⟩
  · rename_i p
    obtain ⟨v, rfl, ra⟩ := reps1 rr
    cases (show v = _ from ra)
    split at t
    · rename_i q
      obtain ⟨vs, s1, r1⟩ := lstAt hr q
      exact call_tuple_of pins s σ H _ us Q I r ⟨p, vs, rfl, .inl ⟨SqL.of s1, fun n hn => l.tup hr hn t r1⟩⟩
    · exact t.elim
  · exact t.elim
/-! ### all, any of a list of truths -/
def boolsOf : List D → Option (List Bool)
  | [] => some []
  | .bl i :: r => (boolsOf r).map (i :: ·)
  | _ => none
theorem boolsOf_map : ∀ ns : List Bool, boolsOf (ns.map D.bl) = some ns
  | [] => rfl
  | n :: ns => by show (boolsOf (ns.map D.bl)).map (n :: ·) = _; rw [boolsOf_map ns]; rfl
theorem boolsOf_eq : ∀ {ds : List D} {ns : List Bool}, boolsOf ds = some ns → ds = ns.map D.bl
  | [], ns, e => by cases e; rfl
  | d :: ds, ns, e => by
    cases d with
    | bl i =>
      have e : (boolsOf ds).map (i :: ·) = some ns := e
      cases q : boolsOf ds with
      | none => rw [q] at e; cases e
      | some ms => rw [q] at e; cases e; rw [boolsOf_eq q]; rfl
    | _ => exact absurd e (by simp [boolsOf])
def boolsD (f : List Bool → Bool) : RAT := fun xs h P => match xs with
  | [.ref p] => (match h p with
    | some (.lst ds) => (match boolsOf ds with
      | some bs => P (.bl (f bs)) h
      | none => False)
    | _ => False)
  | _ => False
def allD : RAT := boolsD fun bs => bs.all id
def anyD : RAT := boolsD fun bs => bs.any id
theorem b_all (hc : X.calm = true) : CallR X (.builtin "all") (lR X.K X.mg allD) := by
  rintro pins s σ H xs us Q I r ⟨ds, h, P, rr, hr, t, l⟩
  unfold allD boolsD at t
  split at t
  · rename_i p
    obtain ⟨v, rfl, ra⟩ := reps1 rr
    cases (show v = _ from ra)
    split at t
    · rename_i ds q
      obtain ⟨vs, s1, r1⟩ := lstAt hr q
      split at t
      · rename_i bs en
        cases boolsOf_eq en
        cases r1.bools
        exact cr_all hc pins s σ H _ us Q I r ⟨p, bs, rfl, SqL.of s1, l.here t hr rfl⟩
      · exact t.elim
    · exact t.elim
  · exact t.elim
theorem b_any (hc : X.calm = true) : CallR X (.builtin "any") (lR X.K X.mg anyD) := by
  rintro pins s σ H xs us Q I r ⟨ds, h, P, rr, hr, t, l⟩
  unfold anyD boolsD at t
  split at t
  · rename_i p
    obtain ⟨v, rfl, ra⟩ := reps1 rr
    cases (show v = _ from ra)
    split at t
    · rename_i ds q
      obtain ⟨vs, s1, r1⟩ := lstAt hr q
      split at t
      · rename_i bs en
        cases boolsOf_eq en
        cases r1.bools
        exact cr_any hc pins s σ H _ us Q I r ⟨p, bs, rfl, SqL.of s1, l.here t hr rfl⟩
      · exact t.elim
    · exact t.elim
  · exact t.elim
/-! ### isinstance -/
/-- a type's name by a tree: none for an instance of an own class -/
def tyNm (d : D) (h : TH) : Option String := match d with
  | .non => some "NoneType"
  | .bl _ => some "bool"
  | .int _ => some "int"
  | .str _ => some "str"
  | .tup _ => some "tuple"
  | .scr _ => some "list"
  | .ref p => (match h p with
    | some (.lst _) => some "list"
    | some (.dct _) => some "dict"
    | _ => none)
  | _ => none
def tyNames : List String := ["NoneType", "bool", "int", "str", "tuple", "list", "dict"]
def tyIs (a b : String) : Bool := a == b || (a == "bool" && b == "int")
theorem tyIs_kit : ∀ a ∈ tyNames, ∀ b ∈ tyNames, b ≠ "NoneType" → kitB a b = some (tyIs a b) := by decide +kernel
theorem tyNm_mem {d : D} {h : TH} {n : String} (e : tyNm d h = some n) : n ∈ tyNames := by
  unfold tyNm at e
  split at e <;> first | (cases e <;> decide) | (split at e <;> cases e <;> decide)
theorem tyNm_ok {K : PySem.W.Frag} {mg : Str → Option Value} {H : Hp} {d : D} {h : TH} {n : String} {v : V} (hr : HR K mg h H) (r : Rep K mg H d v) (e : tyNm d h = some n) : TyX K H v (.type n) := by
  unfold tyNm at e
  split at e
  · cases e; cases (show v = _ from r); exact .base .non
  · cases e; cases (show v = _ from r); exact .base (.bl _)
  · cases e; cases (show v = _ from r); exact .base (.int _)
  · cases e; cases (show v = _ from r); exact .base (.str _)
  · cases e
    obtain ⟨a, vs, rfl, s, _⟩ := r
    rcases s with (s | ⟨o, s⟩) | ⟨o, its, m, lk, c, _⟩
    · exact .base (.tup s)
    · exact .fTuple s
    · exact .kTuple lk c
  · cases e
    obtain ⟨a, rfl, s⟩ := r
    rcases s with ⟨o, s⟩ | ⟨o, its, m, lk, c, _⟩
    · exact .base (.frz s)
    · exact .kList lk c
  · split at e
    · rename_i q
      cases e; cases (show v = _ from r)
      obtain ⟨vs, s1, _⟩ := lstAt hr q
      exact .base (.lst s1)
    · rename_i q
      cases e; cases (show v = _ from r)
      obtain ⟨vs, s1, _⟩ := dctAt hr q
      exact .base (.dK s1)
    · cases e
  · cases e
/-- what isinstance asks of an own class -/
structure InsF (K : PySem.W.Frag) (mg : Str → Option Value) (cn : Str) (C : Addr) : Prop where
  gm : mg cn = some (.ref C)
  cl : Cls K C
  ha : PySem.W.findIn K (.ref C) "__class__" = some (some (.builtin "object.__class__"))
  hn : PySem.W.specialIn K (.builtin "object.__class__") "__get__" = some (some (.builtin "getset_descriptor.__get__"))
  htk : PySem.W.takesIn K (.builtin "object.__class__") = some true
  hm : PySem.W.mroIn K C (.type "object") = some true
  notTy : ∀ n ∈ tyNames, n ≠ "NoneType" → PySem.W.kitOne K (.ref C) (.type n) = some false
  noTy : ∀ n ∈ tyNames, PySem.W.kitOne K (.type n) (.ref C) = some false
/-- isinstance(x, n), n a built-in class; cs: own classes -/
def isTyD (n : String) (cs : List Str) : RAT := fun xs h P => match xs with
  | [x, .ty m] => m = n ∧ (match tyNm x h with
    | some a => P (.bl (tyIs a n)) h
    | none => (match x with
      | .ref p => (match h p with
        | some (.ins c _) => c ∈ cs ∧ P (.bl false) h
        | _ => False)
      | _ => False))
  | _ => False
theorem b_isTy {n : String} {cs : List Str} (hn : n ∈ tyNames) (h0 : n ≠ "NoneType") (hcs : ∀ c ∈ cs, ∃ C, InsF X.K X.mg c C) : CallR X (.builtin "isinstance") (lR X.K X.mg (isTyD n cs)) := by
  rintro pins s σ H xs us Q I r ⟨ds, h, P, rr, hr, t, l⟩
  unfold isTyD at t
  split at t
  · obtain ⟨v, u, rfl, ra, rb⟩ := reps2 rr
    obtain ⟨rfl, t⟩ := t
    cases (show u = _ from rb)
    split at t
    · rename_i a e
      exact call_isi pins s σ H _ us Q I r ⟨v, _, _, _, _, rfl, .ty _, tyNm_ok hr ra e, kit_ty (tyIs_kit a (tyNm_mem e) _ hn h0), l.here t hr rfl⟩
    · split at t
      · rename_i p
        split at t
        · rename_i c fs q
          obtain ⟨hc, t⟩ := t
          obtain ⟨C, F⟩ := hcs c hc
          obtain ⟨C', dx, gs, gm', e1, rf⟩ := insAt hr q
          cases ref_inj F.gm gm'
          cases (show v = _ from ra)
          exact call_isi pins s σ H _ us Q I r ⟨_, _, _, _, false, rfl, .ty _, .base (.ins e1 F.cl F.ha F.hn F.htk F.hm), F.notTy _ hn h0, l.here t hr rfl⟩
        · exact t.elim
      · exact t.elim
  · exact t.elim
/-- isinstance(x, C), C an own class; cs: other own classes, none of them below it -/
def isOwnD (cn : Str) (cs : List Str) : RAT := fun xs h P => match xs with
  | [x, .glo m] => m = cn ∧ (match tyNm x h with
    | some a => P (.bl false) h
    | none => (match x with
      | .ref p => (match h p with
        | some (.ins c _) => (c = cn ∧ P (.bl true) h) ∨ (c ∈ cs ∧ P (.bl false) h)
        | _ => False)
      | _ => False))
  | _ => False
theorem b_isOwn {cn : Str} {cs : List Str} {C0 : Addr} (F0 : InsF X.K X.mg cn C0) (hcs : ∀ c ∈ cs, ∃ C, InsF X.K X.mg c C ∧ PySem.W.kitOne X.K (.ref C) (.ref C0) = some false) : CallR X (.builtin "isinstance") (lR X.K X.mg (isOwnD cn cs)) := by
  rintro pins s σ H xs us Q I r ⟨ds, h, P, rr, hr, t, l⟩
  unfold isOwnD at t
  split at t
  · obtain ⟨v, u, rfl, ra, a0, rfl, g0⟩ := reps2 rr
    obtain ⟨rfl, t⟩ := t
    cases ref_inj F0.gm g0
    split at t
    · rename_i a e
      exact call_isi pins s σ H _ us Q I r ⟨v, _, _, _, _, rfl, .own _, tyNm_ok hr ra e, F0.noTy a (tyNm_mem e), l.here t hr rfl⟩
    · split at t
      · rename_i p
        split at t
        · rename_i c fs q
          obtain ⟨C', dx, gs, gm', e1, rf⟩ := insAt hr q
          cases (show v = _ from ra)
          rcases t with ⟨rfl, t⟩ | ⟨hc, t⟩
          · cases ref_inj F0.gm gm'
            refine call_isi pins s σ H _ us Q I r ⟨_, _, _, _, true, rfl, .own _, .base (.ins e1 F0.cl F0.ha F0.hn F0.htk F0.hm), ?_, l.here t hr rfl⟩
            unfold PySem.W.kitOne
            rw [if_pos (by simp)]
          · obtain ⟨C, F, k0⟩ := hcs c hc
            cases ref_inj F.gm gm'
            exact call_isi pins s σ H _ us Q I r ⟨_, _, _, _, false, rfl, .own _, .base (.ins e1 F.cl F.ha F.hn F.htk F.hm), k0, l.here t hr rfl⟩
        · exact t.elim
      · exact t.elim
  · exact t.elim
end
end T
set_option Elab.async false
set_option linter.all false
set_option maxRecDepth 100000
set_option maxHeartbeats 1000000
namespace T
open PySem L2 PyProof.Rows
/-! ### targets -/
abbrev TrG := D → TS0 → TH → (TS0 → TH → Prop) → Prop
def Agr (sl : List Nat) (σ σ' : L2.St) : Prop := σ'.length = σ.length ∧ ∀ j : Nat, j ∉ sl → σ'[j]? = σ[j]?
theorem Agr.refl (σ : L2.St) (sl : List Nat) : Agr sl σ σ := ⟨rfl, fun _ _ => rfl⟩
theorem Agr.trans {sl sl' : List Nat} {a b c : L2.St} (x : Agr sl a b) (y : Agr sl' b c) : Agr (sl ++ sl') a c :=
  ⟨y.1.trans x.1, fun j hj => by rw [List.mem_append, not_or] at hj; exact (y.2 j hj.2).trans (x.2 j hj.1)⟩
theorem wipe_get (σ : L2.St) (j : Nat) : ∀ vs : List Nat, (L2.wipe σ vs)[j]? = if j ∈ vs then (if j < σ.length then some none else none) else σ[j]?
  | [] => by simp [L2.wipe]
  | v :: vs => by
    show ((L2.wipe σ vs).set v none)[j]? = _
    by_cases e : v = j
    · subst e
      by_cases l : v < σ.length
      · rw [List.getElem?_set_self (by rw [wipe_length]; exact l)]; simp [l]
      · rw [List.getElem?_eq_none (by rw [List.length_set, wipe_length]; omega)]; simp [l]
    · rw [List.getElem?_set_ne e, wipe_get σ j vs]
      simp [Ne.symm e]
theorem Agr.wipe {sl vs : List Nat} {σ σ' : L2.St} (a : Agr sl σ σ') (h : ∀ i ∈ sl, i ∈ vs) : L2.wipe σ' vs = L2.wipe σ vs := by
  apply List.ext_getElem?
  intro j
  rw [wipe_get, wipe_get, a.1]
  by_cases e : j ∈ vs
  · simp [e]
  · rw [if_neg e, if_neg e]; exact a.2 j fun z => e (h j z)
section
variable (K : PySem.W.Frag) (mg : Str → Option Value)
def lG (sl : List Nat) (g : TrG) : L2.TG := fun v σ H Q => ∃ d ds h P, Rep K mg H d v ∧ SR K mg H ds σ ∧ HR K mg h H ∧ g d ds h P ∧ ∀ ds' h' σ' H', P ds' h' → SR K mg H' ds' σ' → HR K mg h' H' → TK K H H' → Agr sl σ σ' → Q σ' H'
abbrev TrGs := List D → TS0 → TH → (TS0 → TH → Prop) → Prop
def lGs (sl : List Nat) (g : TrGs) : L2.TGs := fun vs σ H Q => ∃ d ds h P, Reps K mg H d vs ∧ SR K mg H ds σ ∧ HR K mg h H ∧ g d ds h P ∧ ∀ ds' h' σ' H', P ds' h' → SR K mg H' ds' σ' → HR K mg h' H' → TK K H H' → Agr sl σ σ' → Q σ' H'
end
abbrev TPG (X : Cx) (tg : Expr) (sl : List Nat) (g : TrG) : Prop := PG X tg (lG X.K X.mg sl g)
abbrev TPGs (X : Cx) (tg : List Expr) (sl : List Nat) (g : TrGs) : Prop := PGs X tg (lGs X.K X.mg sl g)
theorem PG_weak {X : Cx} {e : Expr} {t t' : L2.TG} (h : PG X e t) (w : ∀ v σ H Q, t' v σ H Q → t v σ H Q) : PG X e t' := ⟨fun pins s σ H v u Q I r q => h.run pins s σ H v u Q I r (w v σ H Q q)⟩
theorem PGs_weak {X : Cx} {e : List Expr} {t t' : L2.TGs} (h : PGs X e t) (w : ∀ v σ H Q, t' v σ H Q → t v σ H Q) : PGs X e t' := ⟨fun pins s σ H v u Q I r q => h.run pins s σ H v u Q I r (w v σ H Q q)⟩
section
variable {X : Cx} {a b e : Expr} {es : List Expr} {ta tb : TrE} {pos : Pos}
def gN (i : Nat) : TrG := fun d ds h P => P (ds.set i (some d)) h
theorem g_name (i : Nat) {x : Str} (hN : X.N.Nodup) (hi : X.N[i]? = some x := by rfl) (hx : Loc X.env.scope x := by first | exact Or.inl rfl | exact Or.inr rfl) (hf : X.fn x = true ∨ X.env.scope.names.lookup x = some .local := by first | exact .inl rfl | exact .inr rfl | assumption) : TPG X (.Name x pos) [i] (gN i) := by
  refine PG_weak (pg_name hN hi hx hf) ?_
  rintro v σ H Q ⟨d, ds, h, P, r, sr, hr, t, l⟩
  exact l _ _ _ _ t (sr.set i r) hr (TK.refl H) ⟨by simp, fun j hj => by rw [List.getElem?_set_ne]; intro z; exact hj (by simp [z])⟩
def gsNil : TrGs := fun d ds h P => d = [] ∧ P ds h
def gsCons (g : TrG) (r : TrGs) : TrGs := fun d ds h P => match d with
  | x :: xs => g x ds h fun ds1 h1 => r xs ds1 h1 P
  | [] => False
theorem g_nil : TPGs X [] [] gsNil := by
  refine PGs_weak pgs_nil ?_
  rintro v σ H Q ⟨d, ds, h, P, r, sr, hr, ⟨rfl, t⟩, l⟩
  exact ⟨r, l _ _ _ _ t sr hr (TK.refl H) (Agr.refl _ _)⟩
theorem g_cons {sl sl' : List Nat} {g : TrG} {r : TrGs} (h1 : TPG X e sl g) (h2 : TPGs X es sl' r) (hs : (assignEach (e :: es) X.env).map (·.2) = assign e X.env :: (assignEach es X.env).map (·.2) := by rfl) : TPGs X (e :: es) (sl ++ sl') (gsCons g r) := by
  refine PGs_weak (pgs_cons h1 h2 hs) ?_
  rintro v σ H Q ⟨d, ds, h, P, rr, sr, hr, t, l⟩
  cases d with
  | nil => exact t.elim
  | cons x xs =>
    obtain ⟨u, w, rfl, ra, rb⟩ := rr
    refine ⟨u, w, rfl, x, ds, h, _, ra, sr, hr, t, fun ds1 h1 σ1 H1 p1 sr1 hr1 k1 a1 => ?_⟩
    exact ⟨xs, ds1, h1, P, rb.tk k1, sr1, hr1, p1, fun ds2 h2 σ2 H2 p2 sr2 hr2 k2 a2 => l _ _ _ _ p2 sr2 hr2 (k1.trans k2) (a1.trans a2)⟩
def gT (n : Nat) (g : TrGs) : TrG := fun d ds h P => match d with
  | .tup xs => xs.length = n ∧ g xs ds h P
  | _ => False
theorem g_tup {k : Nat} {sl : List Nat} {g : TrGs} {n : Nat} (hc : X.calm = true) (h : TPGs X es sl g) (hn : (assignEach es X.env).length = n := by rfl) (hst : (assignEach es X.env).findIdx? (·.1) = none := by rfl) : TPG X (.Tuple es k pos) sl (gT n g) := by
  refine PG_weak (pg_tup hc h hn hst) ?_
  rintro v σ H Q ⟨d, ds, h, P, r, sr, hr, t, l⟩
  unfold gT at t
  split at t
  · obtain ⟨p, vs, rfl, s1, r1⟩ := r
    exact ⟨p, vs, rfl, s1, by rw [← r1.length]; exact t.1, _, ds, h, P, r1, sr, hr, t.2, l⟩
  · exact t.elim
/-- o[i] = v -/
def setD (o i v : D) (h : TH) (P : TH → Prop) : Prop := match o with
  | .ref p => (match h p with
    | some (.lst xs) => (match i with
      | .int k => (match ixN xs.length k with
        | some j => P (put h p (.lst (xs.set j v)))
        | none => False)
      | _ => False)
    | some (.dct kvs) => (match keyOf i with
      | some k => kvs.length < 100000 ∧ P (put h p (.dct (setK kvs k v)))
      | none => False)
    | _ => False)
  | _ => False
def lSet (K : PySem.W.Frag) (mg : Str → Option Value) : L2.TSet := fun o i v H Q => ∃ a b c h P, Rep K mg H a o ∧ Rep K mg H b i ∧ Rep K mg H c v ∧ HR K mg h H ∧ setD a b c h P ∧ ∀ h' H', P h' → HR K mg h' H' → TK K H H' → Q H'
theorem mutL {K : PySem.W.Frag} {mg : Str → Option Value} {h : TH} {H : Hp} {p : Addr} {xs ys : List D} {vs : List V} (hr : HR K mg h H) (e : h p = some (.lst xs)) (r : Reps K mg H ys vs) :
    TK K H (upd H p (.lst vs)) ∧ HR K mg (put h p (.lst ys)) (upd H p (.lst vs)) := by
  obtain ⟨us, e1, _⟩ := lstAt hr e
  have k : TK K H (upd H p (.lst vs)) := TK.mut e1 trivial
  exact ⟨k, hr.upd k ⟨vs, upd_same, r.tk k⟩⟩
theorem mutD {K : PySem.W.Frag} {mg : Str → Option Value} {h : TH} {H : Hp} {p : Addr} {xs ys : List (Key × D)} {vs : List (Key × V)} (hr : HR K mg h H) (e : h p = some (.dct xs)) (r : FR K mg H Key ys vs) :
    TK K H (upd H p (.dK vs)) ∧ HR K mg (put h p (.dct ys)) (upd H p (.dK vs)) := by
  obtain ⟨us, e1, _⟩ := dctAt hr e
  have k : TK K H (upd H p (.dK vs)) := TK.mut e1 trivial
  exact ⟨k, hr.upd k ⟨vs, upd_same, r.tk k⟩⟩
theorem lt_line {n : Nat} (h : n < 100000) : n < sizeLine := Nat.lt_of_lt_of_le h (by decide)
theorem p_set (hu : X.A.units + 1 < cLine) : PSet X (lSet X.K X.mg) := by
  rintro pins s σ H o i v ov iv u Q I ro ri rv ⟨a, b, c, h, P, ra, rb, rc, hr, t, l⟩
  unfold setD at t
  split at t
  · rename_i p
    cases (show o = _ from ra)
    split at t
    · rename_i xs q
      split at t
      · split at t
        · rename_i j ej
          cases (show i = _ from rb)
          obtain ⟨vs, e1, r1⟩ := lstAt hr q
          obtain ⟨k, hr'⟩ := mutL hr q (r1.set j rc)
          exact set_list pins s σ H _ _ v ov iv u Q I ro ri rv ⟨p, vs, _, j, rfl, rfl, e1, by rw [← r1.length]; exact ej, l _ _ t hr' k⟩
        · exact t.elim
      · exact t.elim
    · rename_i kvs q
      split at t
      · rename_i k ek
        cases key_of rb ek
        obtain ⟨ks, e1, r1⟩ := dctAt hr q
        obtain ⟨kk, hr'⟩ := mutD hr q (r1.put (k := k) rc)
        exact set_dict hu pins s σ H _ _ v ov iv u Q I ro ri rv ⟨p, _, rfl, DPut.k e1 (by rw [← r1.length]; exact lt_line t.1), l _ _ t.2 hr' kk⟩
      · exact t.elim
    · exact t.elim
  · exact t.elim
def gS (ta tb : TrE) : TrG := fun v ds h P => ta ds h fun o h1 => tb ds h1 fun i h2 => setD o i v h2 fun h3 => P ds h3
theorem g_sub (hu : X.A.units + 1 < cLine) (ha : TPE X a ta) (hb : TPE X b tb)
    (hx : ∀ v, assign (.Subscript a b pos) X.env v = (do
      let ov ← holding [v] (eval a X.env)
      let iv ← holding [v, ov] (eval b X.env)
      standAt pos
      holding [v, ov, iv] (setItem ov iv v)
      release [v, ov, iv] []) := by intro _; rfl) : TPG X (.Subscript a b pos) [] (gS ta tb) := by
  refine PG_weak (pg_sub ha hb (p_set hu) hx) ?_
  rintro v σ H Q ⟨d, ds, h, P, r, sr, hr, t, l⟩
  refine ⟨ds, h, _, sr, hr, t, fun o h1 ov H1 p1 hr1 k1 r1 => ⟨ds, h1, _, sr.tk k1, hr1, p1, fun i h2 iv H2 p2 hr2 k2 r2 => ?_⟩⟩
  exact ⟨o, i, d, h2, _, r1.tk k2, r2, r.tk (k1.trans k2), hr2, p2, fun h3 H3 p3 hr3 k3 => l _ _ _ _ p3 (sr.tk ((k1.trans k2).trans k3)) hr3 ((k1.trans k2).trans k3) (Agr.refl _ _)⟩
/-! ### statements -/
variable {st : Stmt} {rest : List Stmt} {t u : TrS} {te : TrE}
def bNext : TrS := fun De ds h => De.nx ds h
def bSeq (t u : TrS) : TrS := fun De ds h => t { De with nx := u De } ds h
theorem s_nil : TPSs X [] bNext := by
  refine PSs_weak pss_nil ?_
  rintro De σ H ⟨ds, h, P, sr, hr, t, l, _⟩
  exact l _ _ _ _ t sr hr (TK.refl H)
theorem s_cons (h1 : TPS X st t) (h2 : TPSs X rest u) : TPSs X (st :: rest) (bSeq t u) := by
  refine PSs_weak (pss_cons h1 h2) ?_
  rintro De σ H ⟨ds, h, P, sr, hr, t, l1, l2, l3, l4⟩
  exact ⟨ds, h, _, sr, hr, t, fun ds1 h1 σ1 H1 p1 sr1 hr1 k1 => ⟨ds1, h1, P, sr1, hr1, p1, l1.tk k1, l2.tk k1, l3.tk k1, l4.tk k1⟩, l2, l3, l4⟩
theorem s_one (h1 : TPS X st t) : TPSs X [st] t := pss_one h1
theorem s_pass : TPS X (.Pass pos) bNext := by
  refine PS_weak ps_pass ?_
  rintro De σ H ⟨ds, h, P, sr, hr, t, l, _⟩
  exact l _ _ _ _ t sr hr (TK.refl H)
def bBreak : TrS := fun De ds h => De.bk ds h
def bCont : TrS := fun De ds h => De.ct ds h
theorem s_break : TPS X (.Break pos) bBreak := by
  refine PS_weak ps_break ?_
  rintro De σ H ⟨ds, h, P, sr, hr, t, _, _, l, _⟩
  exact l _ _ _ _ t sr hr (TK.refl H)
theorem s_cont : TPS X (.Continue pos) bCont := by
  refine PS_weak ps_continue ?_
  rintro De σ H ⟨ds, h, P, sr, hr, t, _, _, _, l⟩
  exact l _ _ _ _ t sr hr (TK.refl H)
def bNever : TrS := fun _ _ _ => False
theorem s_never : TPS X st bNever := by
  refine PS_weak ps_never ?_
  rintro De σ H ⟨ds, h, P, sr, hr, t, _⟩
  exact t
theorem ss_never : TPSs X rest bNever := by
  refine PSs_weak pss_never ?_
  rintro De σ H ⟨ds, h, P, sr, hr, t, _⟩
  exact t
theorem s_doc {x : Str} {j : Nat} {p : Pos} : TPS X (.Expr (.Constant (.str x) j p) pos) bNext := by
  refine PS_weak ps_doc ?_
  rintro De σ H ⟨ds, h, P, sr, hr, t, l, _⟩
  exact l _ _ _ _ t sr hr (TK.refl H)
def bExpr (te : TrE) : TrS := fun De ds h => te ds h fun _ h1 => De.nx ds h1
theorem s_expr (he : TPE X e te) (hs : swapsWith e none pos.line X.env = pure false := by rfl) : TPS X (.Expr e pos) (bExpr te) := by
  refine PS_weak (ps_expr he hs) ?_
  rintro De σ H ⟨ds, h, P, sr, hr, t, l, _⟩
  exact ⟨ds, h, _, sr, hr, t, fun d h1 v H1 p1 hr1 k1 r1 => l _ _ _ _ p1 (sr.tk k1) hr1 k1⟩
def bRet (te : TrE) : TrS := fun De ds h => te ds h De.rt
theorem s_ret (he : TPE X e te) : TPS X (.Return (some e) pos) (bRet te) := by
  refine PS_weak (ps_ret he) ?_
  rintro De σ H ⟨ds, h, P, sr, hr, t, _, l, _⟩
  exact ⟨ds, h, _, sr, hr, t, l⟩
def bRetN : TrS := fun De ds h => De.rt .non h
theorem s_retN : TPS X (.Return none pos) bRetN := by
  refine PS_weak ps_retN ?_
  rintro De σ H ⟨ds, h, P, sr, hr, t, _, l, _⟩
  exact l.here t hr rfl
def bIfS (c : TrT) (t u : TrS) : TrS := fun De ds h => c ds h fun k h1 => if k = true then t De ds h1 else u De ds h1
theorem s_if {c : Expr} {A B : List Stmt} {tc : TrT} (hc : TPT X c tc) (ha : TPSs X A t) (hb : TPSs X B u) : TPS X (.If c A B pos) (bIfS tc t u) := by
  refine PS_weak (ps_if hc ha hb) ?_
  rintro De σ H ⟨ds, h, P, sr, hr, t, l1, l2, l3, l4⟩
  refine ⟨ds, h, _, sr, hr, t, fun k h1 H1 p1 hr1 k1 => ?_⟩
  cases k with
  | true => rw [if_pos rfl] at p1 ⊢; exact ⟨ds, h1, P, sr.tk k1, hr1, p1, l1.tk k1, l2.tk k1, l3.tk k1, l4.tk k1⟩
  | false => rw [if_neg Bool.false_ne_true] at p1 ⊢; exact ⟨ds, h1, P, sr.tk k1, hr1, p1, l1.tk k1, l2.tk k1, l3.tk k1, l4.tk k1⟩
def bAsg (te : TrE) (g : TrG) : TrS := fun De ds h => te ds h fun d h1 => g d ds h1 De.nx
theorem asg_of {K : PySem.W.Frag} {mg : Str → Option Value} {g : TrG} {sl : List Nat} {De : Ends} {σ : L2.St} {H : Hp} (q : lS K mg (bAsg te g) De σ H) : L2.tAsg (lE K mg te) (lG K mg sl g) De σ H := by
  obtain ⟨ds, h, P, sr, hr, t, l, _⟩ := q
  exact ⟨ds, h, _, sr, hr, t, fun d h1 v H1 p1 hr1 k1 r1 => ⟨d, ds, h1, _, r1, sr.tk k1, hr1, p1, fun ds2 h2 σ2 H2 p2 sr2 hr2 k2 _ => l _ _ _ _ p2 sr2 hr2 (k1.trans k2)⟩⟩
theorem s_asg {tg : Expr} {g : TrG} {sl : List Nat} (he : TPE X e te) (hg : TPG X tg sl g) (hs : swapsWithSole [tg] e pos.line X.env = pure false := by rfl) (hw : swappedStores [tg] e X.env = pure none := by rfl)
    (h1 : (assignEach [tg] X.env).map (·.2) = [assign tg X.env] := by rfl) : TPS X (.Assign [tg] e pos) (bAsg te g) := PS_weak (ps_asg he hg hs hw h1) fun _ _ _ => asg_of
theorem s_set (i : Nat) {x : Str} {pos' : Pos} (hN : X.N.Nodup) (he : TPE X e te) (hi : X.N[i]? = some x := by rfl) (hx : Loc X.env.scope x := by first | exact Or.inl rfl | exact Or.inr rfl) (hs : swapsWith e (some (.Name x pos')) pos.line X.env = pure false := by rfl) (hf : X.fn x = true ∨ X.env.scope.names.lookup x = some .local := by first | exact .inl rfl | exact .inr rfl | assumption) :
    TPS X (.Assign [.Name x pos'] e pos) (bAsg te (gN i)) := by
  refine PS_weak (ps_set hN hi hx he hs hf) ?_
  rintro De σ H ⟨ds, h, P, sr, hr, t, l, _⟩
  exact ⟨ds, h, _, sr, hr, t, fun d h1 v H1 p1 hr1 k1 r1 => l _ _ _ _ p1 ((sr.tk k1).set i r1) hr1 k1⟩
/-- a, b = x, y -/
def bPar (i j : Nat) (tr : TrA) : TrS := fun De ds h => tr ds h fun vs h1 => match vs with
  | [v, w] => De.nx ((ds.set i (some v)).set j (some w)) h1
  | _ => False
theorem s_par (i j : Nat) {x y : Str} {px py pt : Pos} {kt k2 pt2} {tr : TrA} (hc : X.calm = true) (hN : X.N.Nodup) (ha : TPA X [a, b] tr) (hi : X.N[i]? = some x := by rfl) (hj : X.N[j]? = some y := by rfl) (hij : i ≠ j := by decide)
    (hx : X.env.scope.names.lookup x = some .local := by rfl) (hy : X.env.scope.names.lookup y = some .local := by rfl)
    (hw : swappedStores [.Tuple [.Name x px, .Name y py] kt pt] (.Tuple [a, b] k2 pt2) X.env = pure (some [x, y]) := by rfl)
    (hs : swapsWithSole [.Tuple [.Name x px, .Name y py] kt pt] (.Tuple [a, b] k2 pt2) pos.line X.env = pure false := by rfl) :
    TPS X (.Assign [.Tuple [.Name x px, .Name y py] kt pt] (.Tuple [a, b] k2 pt2) pos) (bPar i j tr) := by
  refine PS_weak (ps_par hc hN hi hj hij hx hy ha hw hs) ?_
  rintro De σ H ⟨ds, h, P, sr, hr, t, l, _⟩
  refine ⟨ds, h, _, sr, hr, t, fun xs h1 us H1 p1 hr1 k1 r1 => ?_⟩
  split at p1
  · obtain ⟨v, u, rfl, ra, rb⟩ := reps2 r1
    exact ⟨v, u, rfl, l _ _ _ _ p1 (((sr.tk k1).set i ra).set j rb) hr1 k1⟩
  · exact p1.elim
def bPar3 (i j k : Nat) (tr : TrA) : TrS := fun De ds h => tr ds h fun vs h1 => match vs with
  | [u, v, w] => De.nx (((ds.set i (some u)).set j (some v)).set k (some w)) h1
  | _ => False
theorem s_par3 (i j m : Nat) {x y z : Str} {c : Expr} {px py pz pt : Pos} {kt k2 pt2} {tr : TrA} (hc : X.calm = true) (hN : X.N.Nodup) (ha : TPA X [a, b, c] tr) (hi : X.N[i]? = some x := by rfl) (hj : X.N[j]? = some y := by rfl) (hl : X.N[m]? = some z := by rfl) (hij : i ≠ j := by decide) (hil : i ≠ m := by decide) (hjl : j ≠ m := by decide)
    (hx : X.env.scope.names.lookup x = some .local := by rfl) (hy : X.env.scope.names.lookup y = some .local := by rfl) (hz : X.env.scope.names.lookup z = some .local := by rfl)
    (hw : swappedStores [.Tuple [.Name x px, .Name y py, .Name z pz] kt pt] (.Tuple [a, b, c] k2 pt2) X.env = pure (some [x, y, z]) := by rfl)
    (hs : swapsWithSole [.Tuple [.Name x px, .Name y py, .Name z pz] kt pt] (.Tuple [a, b, c] k2 pt2) pos.line X.env = pure false := by rfl) :
    TPS X (.Assign [.Tuple [.Name x px, .Name y py, .Name z pz] kt pt] (.Tuple [a, b, c] k2 pt2) pos) (bPar3 i j m tr) := by
  refine PS_weak (ps_par3 hc hN hi hj hl hij hil hjl hx hy hz ha hw hs) ?_
  rintro De σ H ⟨ds, h, P, sr, hr, t, l, _⟩
  refine ⟨ds, h, _, sr, hr, t, fun xs h1 us H1 p1 hr1 k1 r1 => ?_⟩
  split at p1
  · obtain ⟨v, w, rfl, ra, rb⟩ := r1
    obtain ⟨v2, v3, rfl, rb, rc⟩ := reps2 rb
    exact ⟨v, v2, v3, rfl, l _ _ _ _ p1 ((((sr.tk k1).set i ra).set j rb).set m rc) hr1 k1⟩
  · exact p1.elim
/-- o.f = e -/
def putFT (f : Str) (v : D) : List (Str × D) → List (Str × D)
  | [] => [(f, v)]
  | (g, x) :: r => if g = f then (g, v) :: r else (g, x) :: putFT f v r
def bSetF (cn f : Str) (te ta : TrE) : TrS := fun De ds h => te ds h fun v h1 => ta ds h1 fun x h2 => match x with
  | .ref p => (match h2 p with
    | some (.ins c' fs) => c' = cn ∧ fs.length < 1000 ∧ De.nx ds (put h2 p (.ins cn (putFT f v fs)))
    | _ => False)
  | _ => False
theorem FR.putF {K : PySem.W.Frag} {mg : Str → Option Value} {H : Hp} {f : Str} {d : D} {v : V} (r : Rep K mg H d v) : ∀ {xs : List (Str × D)} {ys : List (Str × V)}, FR K mg H Str xs ys → FR K mg H Str (putFT f d xs) (L2.putF f v ys)
  | _, _, .nil => .cons ⟨rfl, r⟩ .nil
  | (x, d0) :: xs, (y, v0) :: ys, .cons a t => by
    obtain ⟨e0, r0⟩ := a
    cases (show x = y from e0)
    unfold putFT L2.putF
    by_cases e : x = f
    · rw [if_pos e, if_pos e]; exact .cons ⟨rfl, r⟩ t
    · rw [if_neg e, if_neg e]; exact .cons ⟨rfl, r0⟩ (FR.putF r t)
theorem s_fld {cn f : Str} {pos' : Pos} (hc : ClsF X.K X.mg cn) (hn : NoF X.K X.mg cn f) (ha : TPE X a ta) (he : TPE X e te) (hs : swapsWith e (some (.Attribute a f pos')) pos.line X.env = pure false := by rfl) :
    TPS X (.Assign [.Attribute a f pos'] e pos) (bSetF cn f te ta) := by
  obtain ⟨C, gm, cl⟩ := hc
  obtain ⟨C2, gm2, no⟩ := hn
  cases ref_inj gm gm2
  refine PS_weak (ps_fld ha he hs) ?_
  rintro De σ H ⟨ds, h, P, sr, hr, t, l, _⟩
  refine ⟨ds, h, _, sr, hr, t, fun d h1 v H1 p1 hr1 k1 r1 => ⟨ds, h1, _, sr.tk k1, hr1, p1, fun x h2 u H2 p2 hr2 k2 r2 => ?_⟩⟩
  split at p2
  · rename_i p
    split at p2
    · rename_i c' fs q
      obtain ⟨rfl, hl, p2⟩ := p2
      obtain ⟨C', dx, gs, gm', e1, rf⟩ := insAt hr2 q
      cases ref_inj gm gm'
      have kk : TK X.K H2 (upd H2 p (.ins C dx (L2.putF f v gs))) := TK.mut e1 trivial
      refine ⟨p, C, dx, gs, r2, e1, cl, no, by rw [← rf.length]; exact hl, ?_⟩
      exact l _ _ _ _ p2 (sr.tk ((k1.trans k2).trans kk)) (hr2.upd kk ⟨C, dx, _, gm, upd_same, (rf.putF (r1.tk k2)).tk kk⟩) ((k1.trans k2).trans kk)
    · exact p2.elim
  · exact p2.elim
/-! ### name op= e -/
def bAug (i : Nat) (te : TrE) (r : R2T) : TrS := fun De ds h => match ds[i]? with
  | some (some x) => te ds h fun y h1 => r x y h1 fun z h2 => De.nx (ds.set i (some z)) h2
  | _ => False
theorem s_aug (i : Nat) {x : Str} {op : Operator} {r : R2T} {pos' : Pos} (hN : X.N.Nodup) (ho : OpR X (inplaceOp op) (l2 X.K X.mg r)) (he : TPE X e te) (hi : X.N[i]? = some x := by rfl) (hx : Loc X.env.scope x := by first | exact Or.inl rfl | exact Or.inr rfl) (hf : X.fn x = true ∨ X.env.scope.names.lookup x = some .local := by first | exact .inl rfl | exact .inr rfl | assumption) :
    TPS X (.AugAssign (.Name x pos') op e pos) (bAug i te r) := by
  have ho' : PIp X op (l2 X.K X.mg r) := ho
  refine PS_weak (ps_aug hN hi hx he ho' hf) ?_
  rintro De σ H ⟨ds, h, P, sr, hr, t, l, _⟩
  unfold bAug at t
  split at t
  · rename_i d q
    obtain ⟨v, e1, r1⟩ := sr.2 i d q
    refine ⟨v, e1, ds, h, _, sr, hr, t, fun y h1 u H1 p1 hr1 k1 r2 => ?_⟩
    exact ⟨d, y, h1, _, r1.tk k1, r2, hr1, p1, fun z h2 w H2 p2 hr2 k2 r3 => l _ _ _ _ p2 ((sr.tk (k1.trans k2)).set i r3) hr2 (k1.trans k2)⟩
  · exact t.elim
theorem i_add : OpR X (inplaceOp .Add) (l2 X.K X.mg (iiD fun i j h P => P (.int (i + j)) h)) := o_ii fun pins s σ H i j v u Q I rx ry ⟨h, P, hr, t, l⟩ => iop_add pins s σ H _ _ v u Q I rx ry ⟨_, _, rfl, rfl, l.here t hr rfl⟩
theorem i_sub : OpR X (inplaceOp .Sub) (l2 X.K X.mg (iiD fun i j h P => P (.int (i - j)) h)) := o_ii fun pins s σ H i j v u Q I rx ry ⟨h, P, hr, t, l⟩ => iop_sub pins s σ H _ _ v u Q I rx ry ⟨_, _, rfl, rfl, l.here t hr rfl⟩
theorem i_mul : OpR X (inplaceOp .Mult) (l2 X.K X.mg (iiD fun i j h P => CMul i j ∧ P (.int (i * j)) h)) := o_ii fun pins s σ H i j v u Q I rx ry ⟨h, P, hr, t, l⟩ => iop_mul pins s σ H _ _ v u Q I rx ry ⟨_, _, rfl, rfl, t.1, l.here t.2 hr rfl⟩
/-! ### what is walked -/
structure TWalk (K : PySem.W.Frag) (mg : Str → Option Value) (H0 : Hp) (J : It) (items : List D) (stay : TH → Prop) : Prop where
  goes : ∀ i h H, i < items.length → TK K H0 H → HR K mg h H → stay h → J.go i H
  stops : ∀ h H, TK K H0 H → HR K mg h H → stay h → J.stop items.length H
  yields : ∀ i h H x H' d, items[i]? = some d → TK K H0 H → HR K mg h H → stay h → J.yld i H x H' → HR K mg h H' ∧ TK K H H' ∧ Rep K mg H' d x ∧ ∀ p xs, H p = some (.lst xs) → H' p = some (.lst xs)
abbrev TrI := TS0 → TH → (List D → (TH → Prop) → TH → Prop) → Prop
def lI (K : PySem.W.Frag) (mg : Str → Option Value) (ti : TrI) : L2.TI := fun σ H R => ∃ ds h P, SR K mg H ds σ ∧ HR K mg h H ∧ ti ds h P ∧ ∀ items stay h1 H1 J, P items stay h1 → HR K mg h1 H1 → TK K H H1 → TWalk K mg H1 J items stay → R J H1
abbrev TPI (X : Cx) (tg iter : Expr) (ti : TrI) : Prop := PI X tg iter (lI X.K X.mg ti)
theorem PI_weak {X : Cx} {tg e : Expr} {t t' : L2.TI} (h : PI X tg e t) (w : ∀ σ H Q, t' σ H Q → t σ H Q) : PI X tg e t' := ⟨fun pins s σ H Q I q => h.run pins s σ H Q I (w σ H Q q)⟩
variable {tg iter : Expr}
/-- a tuple -/
def iT (te : TrE) : TrI := fun ds h P => te ds h fun d h1 => match d with
  | .tup xs => P xs (fun _ => True) h1
  | _ => False
theorem i_tup (he : TPE X iter te) : TPI X tg iter (iT te) := by
  refine PI_weak (pi_tup he) ?_
  rintro σ H R ⟨ds, h, P, sr, hr, t, l⟩
  refine ⟨ds, h, _, sr, hr, t, fun d h1 v H1 p1 hr1 k1 r1 => ?_⟩
  split at p1
  · obtain ⟨a, vs, rfl, s1, rs⟩ := r1
    refine ⟨a, rfl, ⟨vs, s1⟩, l _ _ _ _ _ p1 hr1 k1 ⟨fun i h2 H2 hi k2 _ _ => ?_, fun h2 H2 k2 _ _ => ?_, fun i h2 H2 x H3 d hd k2 hr2 _ y => ?_⟩⟩
    · rw [rs.length] at hi
      exact ⟨vs, vs[i], k2.tup _ _ s1, by simp [hi]⟩
    · exact ⟨vs, k2.tup _ _ s1, by rw [rs.length]; exact Nat.le_refl _⟩
    · obtain ⟨e, y⟩ := y
      subst e
      obtain ⟨w, e1, e2⟩ := rs.get hd
      have := y vs (k2.tup _ _ s1)
      rw [e1] at this; cases this
      exact ⟨hr2, TK.refl _, e2.tk k2, fun _ _ e => e⟩
  · exact p1.elim
/-- a list, the script too -/
def iL (te : TrE) : TrI := fun ds h P => te ds h fun d h1 => match d with
  | .scr ns => P (ns.map D.int) (fun _ => True) h1
  | .ref p => (match h1 p with
    | some (.lst xs) => P xs (fun h' => h' p = some (.lst xs)) h1
    | _ => False)
  | _ => False
theorem i_lst (he : TPE X iter te) : TPI X tg iter (iL te) := by
  refine PI_weak (pi_list he) ?_
  rintro σ H R ⟨ds, h, P, sr, hr, t, l⟩
  refine ⟨ds, h, _, sr, hr, t, fun d h1 v H1 p1 hr1 k1 r1 => ?_⟩
  split at p1
  · rename_i ns
    obtain ⟨a, rfl, s1⟩ := r1
    refine ⟨a, rfl, ⟨_, s1.sq⟩, l _ _ _ _ _ p1 hr1 k1 ⟨fun i h2 H2 hi k2 _ _ => ?_, fun h2 H2 k2 _ _ => ?_, fun i h2 H2 x H3 d hd k2 hr2 _ y => ?_⟩⟩
    · rw [List.length_map] at hi
      exact ⟨_, .int ns[i], (k2.fz _ _ s1).sq, by simp [hi]⟩
    · exact ⟨_, (k2.fz _ _ s1).sq, by simp⟩
    · obtain ⟨e, y⟩ := y
      subst e
      obtain ⟨w, e1, e2⟩ := (Reps.ofInts (K := X.K) (mg := X.mg) (H := H3) ns).get hd
      have := y _ (k2.fz _ _ s1).sq
      rw [e1] at this; cases this
      exact ⟨hr2, TK.refl _, e2, fun _ _ e => e⟩
  · rename_i p
    split at p1
    · rename_i xs q
      obtain ⟨vs, s1, rs⟩ := lstAt hr1 q
      refine ⟨p, r1, ⟨vs, SqL.of s1⟩, l _ _ _ _ _ p1 hr1 k1 ⟨fun i h2 H2 hi k2 hr2 st => ?_, fun h2 H2 k2 hr2 st => ?_, fun i h2 H2 x H3 d hd k2 hr2 st y => ?_⟩⟩
      all_goals obtain ⟨us, s2, rs2⟩ := lstAt hr2 st
      · rw [rs2.length] at hi
        exact ⟨us, us[i], SqL.of s2, by simp [hi]⟩
      · exact ⟨us, SqL.of s2, by rw [rs2.length]; exact Nat.le_refl _⟩
      · obtain ⟨e, y⟩ := y
        subst e
        obtain ⟨w, e1, e2⟩ := rs2.get hd
        have := y us (SqL.of s2)
        rw [e1] at this; cases this
        exact ⟨hr2, TK.refl _, e2, fun _ _ e => e⟩
    · exact p1.elim
  · exact p1.elim
/-- lo, lo + 1, .. -/
def upTo (lo : Int) (n : Nat) : List D := (List.range n).map fun i => D.int (lo + (i : Nat))
theorem walk_rng {K : PySem.W.Frag} {mg : Str → Option Value} {H1 : Hp} (lo : Int) (n : Nat) : TWalk K mg H1 (Itr lo n) (upTo lo n) (fun _ => True) := by
  refine ⟨fun i h2 H2 hi _ _ _ => (show i < n by simpa [upTo] using hi), fun h2 H2 _ _ _ => by simp [upTo, Itr], fun i h2 H2 x H3 d hd k2 hr2 _ y => ?_⟩
  obtain ⟨e, y⟩ := y
  subst e y
  refine ⟨hr2, TK.refl _, ?_, fun _ _ e => e⟩
  unfold upTo at hd
  rw [List.getElem?_map] at hd
  by_cases l : i < n
  · rw [List.getElem?_range l] at hd; cases hd; rfl
  · rw [List.getElem?_eq_none (by simpa using l)] at hd; cases hd
def iR1 (tr : TrA) : TrI := fun ds h P => tr ds h fun xs h1 => match xs with
  | [.int j] => (-(2 ^ 62) ≤ j ∧ j < 2 ^ 62) ∧ P (upTo 0 j.toNat) (fun _ => True) h1
  | _ => False
theorem i_range1 {p : Pos} {tr : TrA} (hm : X.mg "range" = none) (ha : TPA X [a] tr) (hg : Gl X "range" := by rfl) (hs : starEach [a] X.env = [(false, eval a X.env)] := by rfl) : TPI X tg (.Call (.Name "range" p) [a] [] pos) (iR1 tr) := by
  refine PI_weak (pi_range1 hg hm ha hs) ?_
  rintro σ H R ⟨ds, h, P, sr, hr, t, l⟩
  refine ⟨ds, h, _, sr, hr, t, fun d h1 v H1 p1 hr1 k1 r1 => ?_⟩
  split at p1
  · obtain ⟨v, rfl, ra⟩ := reps1 r1
    cases (show v = _ from ra)
    exact ⟨_, rfl, p1.1.1, p1.1.2, l _ _ _ _ _ p1.2 hr1 k1 (walk_rng 0 _)⟩
  · exact p1.elim
def iR2 (tr : TrA) : TrI := fun ds h P => tr ds h fun xs h1 => match xs with
  | [.int i, .int j] => (-(2 ^ 62) ≤ i ∧ i < 2 ^ 62 ∧ -(2 ^ 62) ≤ j ∧ j < 2 ^ 62) ∧ P (upTo i (j - i).toNat) (fun _ => True) h1
  | _ => False
theorem i_range2 {p : Pos} {tr : TrA} (hm : X.mg "range" = none) (ha : TPA X [a, b] tr) (hg : Gl X "range" := by rfl) (hs : starEach [a, b] X.env = [(false, eval a X.env), (false, eval b X.env)] := by rfl) (hs2 : starEach [b] X.env = [(false, eval b X.env)] := by rfl) : TPI X tg (.Call (.Name "range" p) [a, b] [] pos) (iR2 tr) := by
  refine PI_weak (pi_range2 hg hm ha hs hs2) ?_
  rintro σ H R ⟨ds, h, P, sr, hr, t, l⟩
  refine ⟨ds, h, _, sr, hr, t, fun d h1 v H1 p1 hr1 k1 r1 => ?_⟩
  split at p1
  · obtain ⟨v, u, rfl, ra, rb⟩ := reps2 r1
    cases (show v = _ from ra); cases (show u = _ from rb)
    exact ⟨_, _, rfl, p1.1, l _ _ _ _ _ p1.2 hr1 k1 (walk_rng _ _)⟩
  · exact p1.elim
/-- a text, sign by sign -/
def iS (te : TrE) : TrI := fun ds h P => te ds h fun d h1 => match d with
  | .str z => P (z.cps.toList.map fun c => D.str ⟨#[c]⟩) (fun _ => True) h1
  | _ => False
theorem i_str (he : TPE X iter te) : TPI X tg iter (iS te) := by
  refine PI_weak (pi_str he) ?_
  rintro σ H R ⟨ds, h, P, sr, hr, t, l⟩
  refine ⟨ds, h, _, sr, hr, t, fun d h1 v H1 p1 hr1 k1 r1 => ?_⟩
  split at p1
  · rename_i z
    cases (show v = _ from r1)
    refine ⟨z, rfl, l _ _ _ _ _ p1 hr1 k1 ⟨fun i h2 H2 hi _ _ _ => ?_, fun h2 H2 _ _ _ => ?_, fun i h2 H2 x H3 d hd k2 hr2 _ y => ?_⟩⟩
    · exact (walk_str (z := z)).goes i H2 (by simpa using hi) trivial
    · have := (walk_str (z := z)).stops H2 trivial
      simpa using this
    · obtain ⟨e, c, e1, e2⟩ := (walk_str (z := z)).yields i H2 x H3 (by
        have := (List.getElem?_eq_some_iff.mp hd).1
        simpa using this) trivial y
      subst e e2
      refine ⟨hr2, TK.refl _, ?_, fun _ _ e => e⟩
      rw [List.getElem?_map, Array.getElem?_toList, e1] at hd
      cases hd; rfl
  · exact p1.elim
/-! ### for -/
def loopR (g : TrG) (tb : TrS) (De : TEnds) (stay : TH → Prop) : List D → TS0 → TH → Prop
  | [], ds, h => stay h ∧ De.nx ds h
  | x :: r, ds, h => stay h ∧ g x ds h fun ds1 h1 => tb { De with nx := loopR g tb De stay r, ct := loopR g tb De stay r, bk := De.nx } ds1 h1
def bFor (ti : TrI) (g : TrG) (tb : TrS) : TrS := fun De ds h => ti ds h fun items stay h1 => loopR g tb De stay items ds h1
theorem s_for {body : List Stmt} {ti : TrI} {g : TrG} {sl : List Nat} {tb : TrS} (hp : PassesOwn (model X.prog X.w) X.A X.env X.xe) (hc : X.calm = true) (hi : TPI X tg iter ti) (hg : TPG X tg sl g) (hb : TPSs X body tb)
    (hs : ∀ x, foldedSetIterable iter X.env x = pure x := by intro _; rfl) : TPS X (.For tg iter body [] pos) (bFor ti g tb) := by
  refine PS_weak (ps_for hp hc hi hg hb hs) ?_
  rintro De σ H ⟨ds, h, P, sr, hr, t, l1, l2, l3, l4⟩
  refine ⟨ds, h, _, sr, hr, t, fun items stay h1 H1 J p1 hr1 k1 w => ?_⟩
  refine ⟨fun i m σ' H' => i ≤ items.length ∧ m = items.length - i ∧ ∃ ds' h', SR X.K X.mg H' ds' σ' ∧ HR X.K X.mg h' H' ∧ TK X.K H1 H' ∧ loopR g tb P stay (items.drop i) ds' h', ⟨_, Nat.zero_le _, rfl, ds, h1, sr.tk k1, hr1, TK.refl _, p1⟩, ?_⟩
  rintro i m σ2 H2 ⟨hi, rfl, ds2, h2, sr2, hr2, k2, q⟩
  by_cases hlt : i < items.length
  · have e : items.drop i = items[i] :: items.drop (i + 1) := List.drop_eq_getElem_cons hlt
    rw [e] at q
    obtain ⟨st, q⟩ := q
    refine .inr ⟨w.goes i h2 H2 hlt k2 hr2 st, _, fun σ3 H3 n3 => ⟨items.length - (i + 1), by omega, n3⟩, fun x H3 y => ?_⟩
    obtain ⟨hr3, k3, r3, _⟩ := w.yields i h2 H2 x H3 items[i] (by simp [hlt]) k2 hr2 st y
    refine ⟨items[i], ds2, h2, _, r3, sr2.tk k3, hr3, q, fun ds4 h4 σ4 H4 p4 sr4 hr4 k4 _ => ?_⟩
    have kk : TK X.K H H4 := ((k1.trans k2).trans k3).trans k4
    have kk1 : TK X.K H1 H4 := (k2.trans k3).trans k4
    refine ⟨ds4, h4, _, sr4, hr4, p4, fun ds5 h5 σ5 H5 p5 sr5 hr5 k5 => ?_, l2.tk kk, l1.tk kk, fun ds5 h5 σ5 H5 p5 sr5 hr5 k5 => ?_⟩
    · exact ⟨hlt, rfl, ds5, h5, sr5, hr5, kk1.trans k5, p5⟩
    · exact ⟨hlt, rfl, ds5, h5, sr5, hr5, kk1.trans k5, p5⟩
  · have e : i = items.length := by omega
    subst e
    rw [List.drop_length] at q
    exact .inl ⟨w.stops h2 H2 k2 hr2 q.1, l1 _ _ _ _ q.2 sr2 hr2 (k1.trans k2)⟩
end
end T
set_option Elab.async false
set_option linter.all false
set_option maxRecDepth 100000
set_option maxHeartbeats 1000000
namespace T
open PySem L2 PyProof.Rows
theorem wipe_wipe (σ : L2.St) (vs : List Nat) : L2.wipe (L2.wipe σ vs) vs = L2.wipe σ vs := by
  apply List.ext_getElem?
  intro j
  rw [wipe_get, wipe_get, wipe_length]
  split <;> rfl
section
variable {X : Cx} {a b e : Expr} {es : List Expr} {ta tb : TrE} {pos : Pos}
/-! ### list comprehensions -/
abbrev TPTs (X : Cx) (ifs : List Expr) (t : TrT) : Prop := PTs X ifs (lT X.K X.mg t)
def bYes : TrT := fun _ h P => P true h
theorem c_yes : TPTs X [] bYes := by
  refine ⟨fun pins s σ H Q I ⟨ds, h, P, sr, hr, t, l⟩ => pts_nil.run pins s σ H Q I ?_⟩
  exact l _ _ _ t hr (TK.refl H)
theorem c_if {c : Expr} {t : TrT} (h : TPT X c t) : TPTs X [c] t := pts_one h
def lcR (p : Addr) (stay : TH → Prop) (g : TrG) (tt : TrT) (te : TrE) (dsw : TS0) (P : TH → Prop) : List D → TH → Prop
  | [], h => stay h ∧ P h
  | x :: r, h => stay h ∧ g x dsw h fun ds2 h2 => tt ds2 h2 fun k h3 => if k = true then te ds2 h3 fun y h4 => ∃ h5, Sub h5 h4 ∧ ∃ acc, h5 p = some (.lst acc) ∧ acc.length < 100000 ∧ lcR p stay g tt te dsw P r (put h5 p (.lst (acc ++ [y])))
    else ∃ h5, Sub h5 h3 ∧ lcR p stay g tt te dsw P r h5
def bLc (ti : TrI) (g : TrG) (tt : TrT) (te : TrE) (vs : List Nat) : TrE := fun ds h P => ti ds h fun items stay h1 => ∀ p, h1 p = none → lcR p stay g tt te (wipeT ds vs) (fun h2 => P (.ref p) h2) items (put h1 p (.lst []))
theorem lc_of {K : PySem.W.Frag} {mg : Str → Option Value} {ti : TrI} {g : TrG} {sl : List Nat} {tt : TrT} {te : TrE} {vs : List Nat} {σ : L2.St} {H : Hp} {Q : VK} (hsl : ∀ i ∈ sl, i ∈ vs) (q : lE K mg (bLc ti g tt te vs) σ H Q) :
    L2.tLc (lI K mg ti) (lG K mg sl g) (lT K mg tt) (lE K mg te) vs σ H Q := by
  obtain ⟨ds, h, P, sr, hr, t, l⟩ := q
  refine ⟨ds, h, _, sr, hr, t, fun items stay h1 H1 J p1 hr1 k1 w Dd nD => ?_⟩
  have q0 := p1 Dd (hr1.none nD)
  refine ⟨fun i m H' => i ≤ items.length ∧ m = items.length - i ∧ ∃ h', HR K mg h' H' ∧ TK K H1 H' ∧ lcR Dd stay g tt te (wipeT ds vs) (fun h2 => P (.ref Dd) h2) (items.drop i) h',
    ⟨_, Nat.zero_le _, rfl, _, hr1.upd (TK.new nD) (newLst nD .nil), TK.new nD, q0⟩, ?_⟩
  rintro i m H2 ⟨hi, rfl, h2, hr2, k2, q⟩
  by_cases hlt : i < items.length
  · have e : items.drop i = items[i] :: items.drop (i + 1) := List.drop_eq_getElem_cons hlt
    rw [e] at q
    obtain ⟨st, q⟩ := q
    refine .inr ⟨w.goes i h2 H2 hlt k2 hr2 st, _, fun H3 n3 => ⟨items.length - (i + 1), by omega, n3⟩, fun x H3 y => ?_⟩
    obtain ⟨hr3, k3, r3, _⟩ := w.yields i h2 H2 x H3 items[i] (by simp [hlt]) k2 hr2 st y
    have kk : TK K H H3 := (k1.trans k2).trans k3
    refine ⟨items[i], wipeT ds vs, h2, _, r3, (sr.tk kk).wipe vs, hr3, q, fun ds4 h4 σ4 H4 p4 sr4 hr4 k4 a4 => ⟨by rw [a4.wipe hsl, wipe_wipe], ?_⟩⟩
    refine ⟨ds4, h4, _, sr4, hr4, p4, fun bb h5 H5 p5 hr5 k5 => ?_⟩
    have k15 : TK K H1 H5 := ((k2.trans k3).trans k4).trans k5
    cases bb with
    | true =>
      dsimp only
      rw [if_pos rfl] at p5 ⊢
      refine ⟨ds4, h5, _, sr4.tk k5, hr5, p5, fun d h6 v H6 p6 hr6 k6 r6 => ?_⟩
      obtain ⟨h7, sb, acc, e7, la, p7⟩ := p6
      have hr7 := hr6.sub sb
      obtain ⟨us, e8, r8⟩ := lstAt hr7 e7
      obtain ⟨k9, hr9⟩ := mutL hr7 e7 (r8.append (.cons r6 .nil))
      exact ⟨us, e8, by rw [← r8.length]; exact lt_line la, hlt, rfl, _, hr9, (k15.trans k6).trans k9, p7⟩
    | false =>
      dsimp only
      rw [if_neg Bool.false_ne_true] at p5 ⊢
      obtain ⟨h7, sb, p7⟩ := p5
      exact ⟨hlt, rfl, h7, hr5.sub sb, k15, p7⟩
  · have e : i = items.length := by omega
    subst e
    rw [List.drop_length] at q
    exact .inl ⟨w.stops h2 H2 k2 hr2 q.1, l _ _ _ _ q.2 hr2 (k1.trans k2) rfl⟩
theorem t_lc {elt tg iter : Expr} {ifs : List Expr} {scope : Scope} (own : List (Str × Nat)) {ti : TrI} {g : TrG} {sl : List Nat} {tt : TrT} {te : TrE} (hc : X.calm = true) (hN : X.N.Nodup) (hi : TPI X tg iter ti) (ok : blkC X.N X.env.scope scope own = true)
    (hg : ∀ (s : Shared) (H : Hp) (C : Addr) (cl : List (Str × Addr)) (fp : List Addr), TPG (X.blk s H scope (compEnvC scope cl C X.env) fp) tg sl g) (ht : ∀ (s : Shared) (H : Hp) (C : Addr) (cl : List (Str × Addr)) (fp : List Addr), TPTs (X.blk s H scope (compEnvC scope cl C X.env) fp) ifs tt)
    (he : ∀ (s : Shared) (H : Hp) (C : Addr) (cl : List (Str × Addr)) (fp : List Addr), TPE (X.blk s H scope (compEnvC scope cl C X.env) fp) elt te) (hsl : ∀ i ∈ sl, i ∈ own.map (·.2) := by decide) (hs : ∀ x, foldedSetIterable iter X.env x = pure x := by intro _; rfl) :
    TPE X (.ListComp elt [⟨tg, iter, ifs, 0⟩] scope pos) (bLc ti g tt te (own.map (·.2))) :=
  PE_weak (pe_lc hc hN hi (blkOk_by ok) hg ht he hs) fun _ _ _ => lc_of hsl
theorem s_setLc (i : Nat) {y : Str} {py : Pos} {elt tg iter : Expr} {ifs : List Expr} {scope : Scope} (own : List (Str × Nat)) {spos : Pos} {ti : TrI} {g : TrG} {sl : List Nat} {tt : TrT} {te : TrE} (hc : X.calm = true) (hN : X.N.Nodup)
    (hi : TPI X tg iter ti) (ok : blkC X.N X.env.scope scope own = true)
    (hg : ∀ (s : Shared) (H : Hp) (C : Addr) (cl : List (Str × Addr)) (fp : List Addr), TPG (X.blk s H scope (compEnvC scope cl C X.env) fp) tg sl g) (ht : ∀ (s : Shared) (H : Hp) (C : Addr) (cl : List (Str × Addr)) (fp : List Addr), TPTs (X.blk s H scope (compEnvC scope cl C X.env) fp) ifs tt)
    (he : ∀ (s : Shared) (H : Hp) (C : Addr) (cl : List (Str × Addr)) (fp : List Addr), TPE (X.blk s H scope (compEnvC scope cl C X.env) fp) elt te)
    (hsw : swapsWith (.ListComp elt [⟨tg, iter, ifs, 0⟩] scope pos) (some (.Name y py)) spos.line X.env = pure true) (hy : X.N[i]? = some y := by rfl) (hyl : X.env.scope.names.lookup y = some .local := by rfl)
    (hsl : ∀ i ∈ sl, i ∈ own.map (·.2) := by decide) (hs : ∀ x, foldedSetIterable iter X.env x = pure x := by intro _; rfl) :
    TPS X (.Assign [.Name y py] (.ListComp elt [⟨tg, iter, ifs, 0⟩] scope pos) spos) (bAsg (bLc ti g tt te (own.map (·.2))) (gN i)) := by
  refine PS_weak (ps_setLc (g := lG X.K X.mg sl g) (tt := lT X.K X.mg tt) (te := lE X.K X.mg te) hc hN hy hyl hsw hi (blkOk_by ok) hg ht he hs) ?_
  rintro De σ H ⟨ds, h, P, sr, hr, t, l, _⟩
  refine lc_of (K := X.K) (mg := X.mg) hsl ⟨ds, h, _, sr, hr, t, fun d h1 v H1 p1 hr1 k1 r1 => ?_⟩
  exact l _ _ _ _ p1 ((sr.tk k1).set i r1) hr1 k1
/-! ### methods of built-in types -/
def tyD (T : String) (d : D) (h : TH) : Prop := match d with
  | .str _ => T = "str"
  | .scr _ => T = "list"
  | .ref p => (match h p with
    | some (.lst _) => T = "list"
    | some (.dct _) => T = "dict"
    | _ => False)
  | _ => False
def bMt (T : String) (r : D → RAT) (to : TrE) (tr : TrA) : TrE := fun ds h P => to ds h fun x h1 => tyD T x h1 ∧ tr ds h1 fun xs h2 => r x xs h2 P
def lMt (K : PySem.W.Frag) (mg : Str → Option Value) (r : D → RAT) : V → List V → Hp → VK → Prop := fun x vs H Q => ∃ d ds h P, Rep K mg H d x ∧ Reps K mg H ds vs ∧ HR K mg h H ∧ r d ds h P ∧ Lift K mg H P Q
theorem tyD_ok {K : PySem.W.Frag} {mg : Str → Option Value} {H : Hp} {h : TH} {T : String} {d : D} {v : V} (hr : HR K mg h H) (r : Rep K mg H d v) (t : tyD T d h) : tyV K T v H := by
  unfold tyD at t
  split at t
  · cases (show v = _ from r); exact t
  · obtain ⟨a, rfl, s⟩ := r; exact .inl ⟨t, _, s.sq⟩
  · cases (show v = _ from r)
    split at t
    · rename_i q
      obtain ⟨vs, e, _⟩ := lstAt hr q; exact .inl ⟨t, vs, SqL.of e⟩
    · rename_i q
      obtain ⟨vs, e, _⟩ := dctAt hr q; exact .inr (.inr (.inl ⟨t, .inl ⟨vs, e⟩⟩))
    · exact t.elim
  · exact t.elim
theorem t_mt {Ty id : String} {name : Str} {apos cpos : Pos} {to : TrE} {tr : TrA} {r : D → RAT} (pa : PlainAttrs Ty) (slot : Slot Ty name id) (hty : typeOf (.builtin id) = pure (.type "method_descriptor")) (hm : MtR X id (lMt X.K X.mg r)) (ho : TPE X a to) (ha : TPA X (e :: es) tr)
    (hbase : attributeBase a name X.env (eval a X.env) = eval a X.env := by rfl)
    (hfew : ((backTo cpos (starEach (e :: es) X.env)).all (fun x => !x.1) && (backToKw cpos (keywordEach [] X.env)).all (fun x => x.1.isSome)
      && decide ((e :: es).length + ([] : List Keyword).length + (if ([] : List Keyword).isEmpty then 0 else 1) < 30)) = true := by rfl)
    (hline : (apos.endLine == cpos.line) = true := by rfl) (hs : starEach (e :: es) X.env = (false, eval e X.env) :: starEach es X.env := by rfl) (hplain : (backTo cpos (starEach es X.env)).any (·.1) = false := by rfl) :
    TPE X (.Call (.Attribute a name apos) (e :: es) [] cpos) (bMt Ty r to tr) := by
  refine PE_weak (pe_bm pa slot hty hm ho ha hbase hfew hline hs hplain) ?_
  rintro σ H Q ⟨ds, h, P, sr, hr, t, l⟩
  refine ⟨ds, h, _, sr, hr, t, fun x h1 v H1 p1 hr1 k1 r1 => ⟨tyD_ok hr1 r1 p1.1, ds, h1, _, sr.tk k1, hr1, p1.2, fun xs h2 us H2 p2 hr2 k2 r2 => ?_⟩⟩
  exact ⟨x, xs, h2, P, r1.tk k2, r2, hr2, p2, (l.tk k1).tk k2⟩
theorem t_mt0 {Ty id : String} {name : Str} {apos cpos : Pos} {to : TrE} {r : D → RAT} (pa : PlainAttrs Ty) (slot : Slot Ty name id) (hty : typeOf (.builtin id) = pure (.type "method_descriptor")) (hm : MtR X id (lMt X.K X.mg r)) (ho : TPE X a to)
    (hbase : attributeBase a name X.env (eval a X.env) = eval a X.env := by rfl) (hline : (apos.endLine == cpos.line) = true := by rfl) : TPE X (.Call (.Attribute a name apos) [] [] cpos) (bMt Ty r to bNil) := by
  refine PE_weak (pe_bm0 pa slot hty hm ho hbase hline) ?_
  rintro σ H Q ⟨ds, h, P, sr, hr, t, l⟩
  exact ⟨ds, h, _, sr, hr, t, fun x h1 v H1 p1 hr1 k1 r1 => ⟨tyD_ok hr1 r1 p1.1, x, [], h1, P, r1, .nil, hr1, p1.2, l.tk k1⟩⟩
def appendD (o : D) : RAT := fun xs h P => match o, xs with
  | .ref p, [y] => (match h p with
    | some (.lst ds) => ds.length < 100000 ∧ P .non (put h p (.lst (ds ++ [y])))
    | _ => False)
  | _, _ => False
theorem m_append : MtR X "list.append" (lMt X.K X.mg appendD) := by
  rintro pins s σ H x xs v us Q I rx rxs ⟨d, ds, h, P, r1, r2, hr, t, l⟩
  unfold appendD at t
  split at t
  · rename_i p y
    cases (show x = _ from r1)
    obtain ⟨w, rfl, ry⟩ := reps1 r2
    split at t
    · rename_i zs q
      obtain ⟨vs, e1, rv⟩ := lstAt hr q
      obtain ⟨k, hr'⟩ := mutL hr q (rv.append (.cons ry .nil))
      exact mt_append pins s σ H _ _ v us Q I rx rxs ⟨p, vs, w, rfl, rfl, e1, by rw [← rv.length]; exact lt_line t.1, l _ _ _ _ t.2 hr' k rfl⟩
    · exact t.elim
  · exact t.elim
def extendD (o : D) : RAT := fun xs h P => match o, xs with
  | .ref p, [.ref q] => (match h p, h q with
    | some (.lst ds), some (.lst es) => ds.length + es.length ≤ 100000 ∧ P .non (put h p (.lst (ds ++ es)))
    | _, _ => False)
  | _, _ => False
theorem m_extend : MtR X "list.extend" (lMt X.K X.mg extendD) := by
  rintro pins s σ H x xs v us Q I rx rxs ⟨d, ds, h, P, r1, r2, hr, t, l⟩
  unfold extendD at t
  split at t
  · rename_i p q
    cases (show x = _ from r1)
    obtain ⟨w, rfl, ry⟩ := reps1 r2
    cases (show w = _ from ry)
    split at t
    · rename_i zs ws e1 e2
      obtain ⟨vs, e3, rv⟩ := lstAt hr e1
      obtain ⟨vs2, e4, rv2⟩ := lstAt hr e2
      obtain ⟨k, hr'⟩ := mutL hr e1 (rv.append rv2)
      exact mt_extend pins s σ H _ _ v us Q I rx rxs ⟨p, q, vs, vs2, rfl, rfl, e3, e4, by rw [← rv.length, ← rv2.length]; exact lin t.1, l _ _ _ _ t.2 hr' k rfl⟩
    · exact t.elim
  · exact t.elim
def popD (o : D) : RAT := fun xs h P => match o, xs with
  | .ref p, [] => (match h p with
    | some (.lst ds) => (match ds[ds.length - 1]? with
      | some y => P y (put h p (.lst ds.dropLast))
      | none => False)
    | _ => False)
  | .ref p, [.int i] => (match h p with
    | some (.lst ds) => (match seqIndex? i ds.length with
      | some k => -(2 ^ 63) ≤ i ∧ i < 2 ^ 63 ∧ (match ds[k]? with
        | some y => P y (put h p (.lst (ds.eraseIdx k)))
        | none => False)
      | none => False)
    | _ => False)
  | _, _ => False
theorem Reps.eraseIdx {K : PySem.W.Frag} {mg : Str → Option Value} {H : Hp} : ∀ {ds : List D} {vs : List V} (i : Nat), Reps K mg H ds vs → Reps K mg H (ds.eraseIdx i) (vs.eraseIdx i)
  | [], _, i, h => by cases (show _ = [] from h); exact .nil
  | d :: ds, _, 0, h => by obtain ⟨v, r, rfl, a, b⟩ := h; exact b
  | d :: ds, _, i + 1, h => by obtain ⟨v, r, rfl, a, b⟩ := h; exact .cons a (Reps.eraseIdx i b)
theorem m_pop : MtR X "list.pop" (lMt X.K X.mg popD) := by
  rintro pins s σ H x xs v us Q I rx rxs ⟨d, ds, h, P, r1, r2, hr, t, l⟩
  unfold popD at t
  split at t
  · rename_i p
    cases (show x = _ from r1)
    cases (show xs = _ from r2)
    split at t
    · rename_i zs q
      obtain ⟨vs, e1, rv⟩ := lstAt hr q
      split at t
      · rename_i y ey
        obtain ⟨w, e2, ry⟩ := rv.get ey
        have rd : Reps X.K X.mg H zs.dropLast vs.dropLast := by
          rw [List.dropLast_eq_take, List.dropLast_eq_take, ← rv.length]; exact rv.take _
        obtain ⟨k, hr'⟩ := mutL hr q rd
        exact mt_pop pins s σ H _ _ v us Q I rx rxs ⟨p, vs, w, rfl, rfl, e1, by rw [← rv.length]; exact e2, l _ _ _ _ t hr' k (ry.tk k)⟩
      · exact t.elim
    · exact t.elim
  · rename_i p i
    cases (show x = _ from r1)
    obtain ⟨w0, rfl, ri⟩ := reps1 r2
    cases (show w0 = _ from ri)
    split at t
    · rename_i zs q
      obtain ⟨vs, e1, rv⟩ := lstAt hr q
      split at t
      · rename_i k ek
        obtain ⟨b1, b2, t⟩ := t
        split at t
        · rename_i y ey
          obtain ⟨w, e2, ry⟩ := rv.get ey
          obtain ⟨kk, hr'⟩ := mutL hr q (rv.eraseIdx k)
          exact mt_popAt pins s σ H _ _ v us Q I rx rxs ⟨p, vs, i, k, w, rfl, rfl, e1, b1, b2, by rw [← rv.length]; exact ek, e2, l _ _ _ _ t hr' kk (ry.tk kk)⟩
        · exact t.elim
      · exact t.elim
    · exact t.elim
  · exact t.elim
def strsOf : List D → Option (List Str)
  | [] => some []
  | .str i :: r => (strsOf r).map (i :: ·)
  | _ => none
theorem strsOf_map : ∀ ns : List Str, strsOf (ns.map D.str) = some ns
  | [] => rfl
  | n :: ns => by show (strsOf (ns.map D.str)).map (n :: ·) = _; rw [strsOf_map ns]; rfl
theorem strsOf_eq : ∀ {ds : List D} {ns : List Str}, strsOf ds = some ns → ds = ns.map D.str
  | [], ns, e => by cases e; rfl
  | d :: ds, ns, e => by
    cases d with
    | str i =>
      have e : (strsOf ds).map (i :: ·) = some ns := e
      cases q : strsOf ds with
      | none => rw [q] at e; cases e
      | some ms => rw [q] at e; cases e; rw [strsOf_eq q]; rfl
    | _ => exact absurd e (by simp [strsOf])
/-- sep.join(list of texts) -/
def joinD (o : D) : RAT := fun xs h P => match o, xs with
  | .str z, [.ref p] => (match h p with
    | some (.lst ds) => (match strsOf ds with
      | some ys => (ys.map (·.length)).sum + ys.length * z.length ≤ 100000 ∧ P (.str (Txt.join z ys)) h
      | none => False)
    | _ => False)
  | _, _ => False
theorem m_join : MtR X "str.join" (lMt X.K X.mg joinD) := by
  rintro pins s σ H x xs v us Q I rx rxs ⟨d, ds, h, P, r1, r2, hr, t, l⟩
  unfold joinD at t
  split at t
  · rename_i z p
    cases (show x = _ from r1)
    obtain ⟨w0, rfl, ri⟩ := reps1 r2
    cases (show w0 = _ from ri)
    split at t
    · rename_i zs q
      obtain ⟨vs, e1, rv⟩ := lstAt hr q
      split at t
      · rename_i ys ek
        cases strsOf_eq ek
        cases rv.strs
        exact mt_join pins s σ H _ _ v us Q I rx rxs ⟨z, p, ys, rfl, rfl, .inl (SqL.of e1), by have := t.1; omega, l.here t.2 hr rfl⟩
      · exact t.elim
    · exact t.elim
  · exact t.elim
end
end T
set_option Elab.async false
set_option linter.all false
set_option maxRecDepth 100000
set_option maxHeartbeats 1000000
namespace T
open PySem L2 PyProof.Rows
section
variable {X : Cx} {a b e : Expr} {es : List Expr} {ta tb : TrE} {pos : Pos}
/-! ### sorted -/
def pyD (d : D) : PyData := (toPy d).getD .none
def sortD (ds : List D) : List D := ds.mergeSort (PySem.W.dataLe false pyD)
structure SortOk (ds : List D) : Prop where
  len : ds.length ≤ 100000
  py : ∀ d ∈ ds, toPy d = some (pyD d) ∧ (pyD d).depth ≤ 60
  al : PySem.W.AllAlike (ds.map pyD)
  so : PySem.W.Sortable (ds.map pyD)
def leS (a b : Str) : Bool := decide (a.cps.toList ≤ b.cps.toList)
def sortS (ks : List Str) : List Str := ks.mergeSort leS
theorem leS_trans (a b c : Str) : leS a b = true → leS b c = true → leS a c = true := by
  unfold leS
  simp only [decide_eq_true_eq]
  exact List.le_trans
theorem leS_total (a b : Str) : (leS a b || leS b a) = true := by
  unfold leS
  simp only [Bool.or_eq_true, decide_eq_true_eq]
  exact List.le_total _ _
theorem str_of_cps {a b : Str} (h : a.cps.toList = b.cps.toList) : a = b := by
  obtain ⟨⟨l⟩⟩ := a
  obtain ⟨⟨m⟩⟩ := b
  simp at h
  rw [h]
theorem leS_antisymm {a b : Str} : leS a b = true → leS b a = true → a = b := by
  unfold leS
  simp only [decide_eq_true_eq]
  exact fun x y => str_of_cps (List.le_antisymm x y)
theorem rising_pw : ∀ (r : List Str) (x : Str), risingS x r = true → (x :: r).Pairwise fun a b => leS a b = true
  | [], x, _ => List.pairwise_singleton _ _
  | y :: r, x, h => by
    have h : (!PySem.Spec.ltCps y.cps.toList x.cps.toList && risingS y r) = true := h
    rw [Bool.and_eq_true] at h
    have ih := rising_pw r y h.2
    have h1 : leS x y = true := by
      unfold leS
      have h2 := h.1
      rw [Bool.not_eq_true'] at h2
      rw [ltCps_eq, decide_eq_false_iff_not] at h2
      have h3 : ¬ y.cps.toList < x.cps.toList := h2
      simpa using List.not_lt.mp h3
    refine List.pairwise_cons.mpr ⟨fun z hz => ?_, ih⟩
    rcases List.mem_cons.mp hz with e | hz
    · rw [e]; exact h1
    · exact leS_trans _ _ _ h1 ((List.pairwise_cons.mp ih).1 z hz)
theorem sortS_pw (ks : List Str) : (sortS ks).Pairwise fun a b => leS a b = true := List.pairwise_mergeSort leS_trans leS_total ks
theorem sortS_perm (ks : List Str) : (sortS ks).Perm ks := List.mergeSort_perm ks leS
theorem sortedS_uniq {ys ks : List Str} (p : ys.Perm ks) (h : sortedS ys = true) : ys = sortS ks := by
  refine List.Perm.eq_of_pairwise (le := fun a b => leS a b = true) (fun a b _ _ => leS_antisymm) ?_ (sortS_pw ks) (p.trans (sortS_perm ks).symm)
  cases ys with
  | nil => exact .nil
  | cons y ys => exact rising_pw ys y h
def sortedD : RAT := fun xs h P => match xs with
  | [.ref p] => (match h p with
    | some (.lst ds) => SortOk ds ∧ ∀ q, h q = none → P (.ref q) (put h q (.lst (sortD ds)))
    | some (.dct kvs) => ∃ ks : List Str, kvs.map (·.1) = ks.map Sum.inr ∧ ks.length < 64 ∧ ∀ q, h q = none → P (.ref q) (put h q (.lst ((sortS ks).map D.str)))
    | _ => False)
  | _ => False
theorem each_of {K : PySem.W.Frag} {mg : Str → Option Value} {H : Hp} : ∀ {ds : List D} {vs : List V} {us : List Value}, Reps K mg H ds vs → Vals vs us → PySem.W.EachIs (fun u d => ∃ v, RelV v u ∧ Rep K mg H d v) us ds
  | [], _, _, r, q => by cases (show _ = [] from r); cases q; exact .nil
  | d :: ds, _, _, r, q => by
    obtain ⟨v, w, rfl, a, b⟩ := r
    cases q with
    | cons q1 q2 => exact .cons ⟨v, q1, a⟩ (each_of b q2)
theorem of_each {K : PySem.W.Frag} {mg : Str → Option Value} {H : Hp} : ∀ {ds : List D} {us : List Value}, PySem.W.EachIs (fun u d => ∃ v, RelV v u ∧ Rep K mg H d v) us ds → ∃ vs, Vals vs us ∧ Reps K mg H ds vs
  | _, _, .nil => ⟨[], .nil, rfl⟩
  | _, _, .cons ⟨v, q1, a⟩ t => by
    obtain ⟨vs, r, q⟩ := of_each t
    exact ⟨v :: vs, .cons q1 r, .cons a q⟩
theorem EachIs.memR {α β : Type} {R S : α → β → Prop} : ∀ {as : List α} {bs : List β}, PySem.W.EachIs R as bs → (∀ a b, b ∈ bs → R a b → S a b) → PySem.W.EachIs S as bs
  | _, _, .nil, _ => .nil
  | _, _, .cons a t, h => .cons (h _ _ List.mem_cons_self a) (EachIs.memR t fun x y m => h x y (List.mem_cons_of_mem _ m))
theorem FR.keys {K : PySem.W.Frag} {mg : Str → Option Value} {H : Hp} {κ : Type} : ∀ {xs : List (κ × D)} {ys : List (κ × V)}, FR K mg H κ xs ys → ys.map (·.1) = xs.map (·.1)
  | _, _, .nil => rfl
  | (_, _) :: _, (_, _) :: _, .cons ⟨e, _⟩ t => by rw [List.map_cons, List.map_cons, FR.keys t]; exact congrArg (· :: _) e.symm
theorem b_sorted (hc : X.calm = true) (hu : X.A.units + 64 < cLine) : CallR X (.builtin "sorted") (lR X.K X.mg sortedD) := by
  rintro pins s σ H xs us Q I r ⟨ds, h, P, rr, hr, t, l⟩
  unfold sortedD at t
  split at t
  · rename_i p
    obtain ⟨v, rfl, ra⟩ := reps1 rr
    cases (show v = _ from ra)
    split at t
    · rename_i ds q
      obtain ⟨ok, t⟩ := t
      obtain ⟨vs, s1, r1⟩ := lstAt hr q
      obtain ⟨its, rv, hl, hz⟩ := I.list (SqL.of s1)
      rw [Vals.ref1 r]
      have e := each_of r1 rv
      have er : PySem.W.EachIs (fun v b => ∃ as, Reads s.heap v (pyD b) as) its ds := EachIs.memR e fun u d m ⟨v, q1, q2⟩ => Dp.reads I (pyD d) v u (dp_of q2 (ok.py d m).1) q1
      refine PySem.W.sorted_data (enc := pyD) hl.isList e er ok.al ok.so (lin ok.len) (fun d m => by have := (ok.py d m).2; omega) fun out ho eo => ?_
      obtain ⟨vs', rv', rr'⟩ := of_each eo
      obtain ⟨ep, he'⟩ := sortedAll_at s.heap its out.toArray
      have hlen : vs'.length ≤ sizeLine := by rw [rv'.length, ho]; exact lin ok.len
      have hn : H (s.heap.objs.size + 1) = none := I.hok.fresh (Nat.le_succ _)
      refine ⟨.ref _, upd H (s.heap.objs.size + 1) (.lst vs'), I.laid (t' := s.toks) (fun _ _ => sortedAll_old) (Nat.le_succ _) ⟨hlen, out, ep, rv', he'⟩, rfl, ?_⟩
      exact l.alloc hr hn (t _ (hr.none hn)) (newLst hn rr')
    · rename_i kvs q
      obtain ⟨ks, hk, hlt, t⟩ := t
      obtain ⟨kv, e1, rk⟩ := dctAt hr q
      refine call_sortedD hc pins s σ H _ us Q I r ⟨p, kv, ks, rfl, .inl e1, ?_, hlt, fun ys p' pe so np => ?_⟩
      · rw [← hk]
        exact FR.keys rk
      · rw [sortedS_uniq pe so]
        exact l.alloc hr np (t p' (hr.none np)) (newLst np (Reps.ofStrs _))
    · exact t.elim
  · exact t.elim
end
end T
set_option Elab.async false
set_option linter.all false
set_option maxRecDepth 100000
set_option maxHeartbeats 1000000
namespace T
open PySem L2 PyProof.Rows
open AutoSeq1 (wpAny_loadPart')
/-! ### enumerate(tuple) -/
theorem meets_enumT (l : Addr) (items : Array Value) :
    Meets (Builtin.«enumerate.__new__» ⟨[.type "enumerate", .ref l], []⟩) (fun _ R s => s.heap.IsTuple l items ∧
      R (.ok (.ret (.ref (s.heap.push { cls := .type "tuple_iterator", data := .fields #[.ref l, .int 0 0] }).objs.size)))
        { s with heap := (s.heap.push { cls := .type "tuple_iterator", data := .fields #[.ref l, .int 0 0] }).push { cls := .type "enumerate", data := .fields #[.none, .bool false, .ref s.heap.objs.size, rawInt 0, .none, .none] } }) :=
  .of_wp fun prog w A R s h => by
    obtain ⟨hp, g, d, tk, os⟩ := s; obtain ⟨hL, h⟩ := h
    have hsub := sub_enumerate
    have q1 : ∀ {A' : Around} {E : Value → Shared → Prop} {Q : Value → Shared → Prop}, Q (.ref hp.objs.size) ⟨hp.push { cls := .type "tuple_iterator", data := .fields #[.ref l, .int 0 0] }, g, d, tk, os⟩ → wpAny (model prog w) A' (pyIter (.ref l)) Q E ⟨hp, g, d, tk, os⟩ :=
      fun q => (begins_tuple l items).iter prog w _ _ ⟨hp, g, d, tk, os⟩ _ hL q
    wp_walk using q1
    refine wpAny_stack_any fun st => wpAny_pure ?_
    split
    · rename_i c _ _ _ _ _
      cases (c == Value.type "enumerate")
      · wp_walk using q1
        exact ⟨_, rfl, h⟩
      · wp_walk using q1
        exact ⟨_, rfl, h⟩
    · wp_walk using q1
      exact ⟨_, rfl, h⟩
theorem call_enumT {prog : Program} {w : World} {A : Around} {E : Value → Shared → Prop} {s : Shared} {l : Addr} {items : Array Value} {Q : Value → Shared → Prop} (hL : s.heap.IsTuple l items)
    (h : ∀ h', IsEnum h' (s.heap.objs.size + 1) s.heap.objs.size 0 .none → h'.IsTupleIter s.heap.objs.size l 0 → (∀ b o, s.heap.get? b = some o → h'.get? b = some o) → Q (.ref (s.heap.objs.size + 1)) { s with heap := h' }) :
    wpAny (model prog w) A (call (.type "enumerate") [.ref l]) Q E s := by
  refine callType_new F.called_enumerate (by decide) (F.typeCall_enumerate_1 _) (F.newCall_enumerate_1 _) (fun obj => F.args_object_init_2 obj _) F.entry_enumerate_new (meets_enumT l items) ⟨hL, ?_⟩
  have hz : (s.heap.push { cls := .type "tuple_iterator", data := .fields #[.ref l, .int 0 0] }).objs.size = s.heap.objs.size + 1 := Heap.size_push ..
  show _ ∧ _
  rw [hz]
  have he := Heap.get?_push_size (s.heap.push { cls := .type "tuple_iterator", data := .fields #[.ref l, .int 0 0] }) (o := { cls := .type "enumerate", data := .fields #[.none, .bool false, .ref s.heap.objs.size, rawInt 0, .none, .none] }) rfl
  rw [hz] at he
  exact ⟨⟨_, he, rfl⟩, h _ he ⟨_, Heap.get?_push_of_some _ (Heap.get?_push_size _ rfl), rfl, rfl⟩ fun b o x => Heap.get?_push_of_some _ (Heap.get?_push_of_some _ x)⟩
/-- the tuple at a, each item in a new pair -/
def IteT (K : PySem.W.Frag) (a : Addr) : It :=
  ⟨fun i H => ∃ (xs : List V) (x : V), SqT K H a xs ∧ xs[i]? = some x, fun i H v H' => ∃ T x, v = .ref T ∧ H T = none ∧ H' = upd H T (.tup [.int (i : Nat), x]) ∧ ∀ xs, SqT K H a xs → xs[i]? = some x, fun i H => ∃ xs : List V, SqT K H a xs ∧ xs.length = i⟩
theorem turn_enumT {P : Program} {w : World} {K : PySem.W.Frag} {elts : List Expr} {kk : Nat} {tpos : Pos} (a e it : Addr) (hae : a ≠ e) (hai : a ≠ it) (hne : e ≠ it) :
    Turn P w K (.Tuple elts kk tpos) (IteT K a) [e, it] e (fun i h => (∃ old, IsEnum h e it ((i : Nat) : Int) old) ∧ h.IsTupleIter it a i) where
  mem := by simp
  obj := fun i h st b hb => by
    obtain ⟨⟨old, he⟩, ⟨o, ho, hc, hd⟩⟩ := st
    have e' : b = e ∨ b = it := by simpa using hb
    rcases e' with z | z
    · rw [z]; exact ⟨_, he, fun v q => nomatch q⟩
    · rw [z]; exact ⟨o, ho, fun v q => by rw [hd] at q; cases q⟩
  keep := fun i h h' st k => let ⟨⟨old, he⟩, hi⟩ := st; ⟨⟨old, k e (by simp) _ he⟩, hi.at fun o q => k it (by simp) o q⟩
  item := by
    intro X hP hw hK hc i pins s σ H E I hf st hg
    subst hP hw hK
    obtain ⟨⟨old, he⟩, hit⟩ := st
    obtain ⟨xs, x, hq, hx⟩ := hg
    obtain ⟨its, rv, p, hz⟩ := I.tuple hq
    obtain ⟨u, hu, ru⟩ := rv.get hx
    have hel : e < s.heap.objs.size := Heap.lt_size he
    have hil : it < s.heap.objs.size := by obtain ⟨_, q, _⟩ := hit; exact Heap.lt_size q
    have D := Draws.tuple (prog := X.prog) (w := X.w) (A := X.A.in1) (I.ok.hd hc) it a hai its.toArray
    have hlt : i < its.toArray.size := by
      rw [List.size_toArray]; exact (List.getElem?_eq_some_iff.mp hu).1
    refine wpAny_pyNext_enum_itemD D he ⟨hit, p⟩ hlt hne (by simp; exact ⟨hne, fun z => hae z.symm⟩) fun x' h' tk hP ho hst' hT hsz hk => ?_
    have hP : its.toArray[i]? = some x' := hP
    have ex : x' = u := by
      rw [List.getElem?_toArray, hu] at hP; exact (Option.some.inj hP).symm
    subst ex
    refine ⟨_, rfl, wpAny_letOwnedTupleGo_enum (s := { s with heap := h', toks := tk + 1 }) ho fun h'' he' sb => ?_⟩
    have hT2 : h''.get? s.heap.objs.size = some { cls := .type "tuple", data := .seq #[.int i tk, x'] } := (sb.2 _ (Nat.ne_of_gt hel)).trans hT
    have new : ObjOk X.prog X.w (upd H s.heap.objs.size (.tup [.int (i : Nat), x])) h'' s.heap.objs.size (.tup [.int (i : Nat), x]) :=
      ⟨by show 2 ≤ sizeLine; decide, [.int i tk, x'], .cons ⟨_, rfl⟩ (.cons ru .nil), ⟨_, hT2, rfl, _, rfl⟩⟩
    have I1 : Inv X pins σ (upd H s.heap.objs.size (.tup [.int (i : Nat), x])) { s with heap := h'', toks := tk + 1 } :=
      I.turnedNew (ch := [e, it]) (fun b ob hb q => (sb.2 b (fun z => hb (by simp [z]))).trans (hk b ob (fun z => hb (by simp [z])) (fun z => hb (by simp [z])) q)) hf (Nat.le_refl _) new
    refine ⟨.ref s.heap.objs.size, _, I1, rfl, ⟨_, x, rfl, I.hok.fresh (Nat.le_refl _), rfl, fun ys hy => by rw [I.tuple_inj hy hq]; exact hx⟩, ⟨⟨x', ?_⟩, hst'.1.at fun o q => (sb.2 it (Ne.symm hne)).trans q⟩, fun b hb => ?_⟩
    · have e1 : ((i + 1 : Nat) : Int) = (i : Int) + 1 := by omega
      rw [e1]; exact he'
    · have hb' : b < s.heap.objs.size := by
        have e' : b = e ∨ b = it := by simpa using hb
        rcases e' with z | z
        · rw [z]; exact hel
        · rw [z]; exact hil
      rw [upd_ne (Nat.ne_of_lt hb')]
      exact (hf b hb).1
  done := by
    intro X hP hw hK hc i pins s σ H E I hf st hg
    subst hP hw hK
    obtain ⟨⟨old, he⟩, hit⟩ := st
    obtain ⟨xs, hq, hx⟩ := hg
    obtain ⟨its, rv, p, hz⟩ := I.tuple hq
    obtain ⟨f0, f1, f2, f3, f4, f5⟩ := hf it (by simp)
    have hl := rv.length
    have e1 : i = its.toArray.size := by rw [List.size_toArray]; omega
    have D := Draws.tuple (prog := X.prog) (w := X.w) (A := X.A.in1) (I.ok.hd hc) it a hai its.toArray
    subst e1
    exact wpAny_pyNext_enum_endD D he ⟨hit, p⟩ fun h' eb => ⟨rfl, I.turned (t' := s.toks) (fun b o hb q => eb b o hb q) f0 f1 f3 f4 f5⟩
  self := fun A i s Q E st h => let ⟨⟨_, he⟩, _⟩ := st; wpAny_pyIter_enum he h
section
variable {X : Cx} {e : Expr} {te : TrE} {pos p tpos : Pos} {elts : List Expr} {kk : Nat}
def iEnA (K : PySem.W.Frag) (ta : TA) : L2.TI := fun σ H R => ta σ H fun vs H1 => ∃ a xs, vs = [.ref a] ∧ ((SqL K H1 a xs ∧ R (Ite K a) H1) ∨ (SqT K H1 a xs ∧ R (IteT K a) H1))
theorem pi_enumA {ta : TA} (hg : Gl X "enumerate") (hm : X.mg "enumerate" = none) (ha : PA X [e] ta) (hs : starEach [e] X.env = [(false, eval e X.env)] := by rfl) :
    PI X (.Tuple elts kk tpos) (.Call (.Name "enumerate" p) [e] [] pos) (iEnA X.K ta) := by
  refine ⟨fun pins s σ H R I h => ?_⟩
  refine Call_ (ld_blt I hg hm boot_enumerate (PyProof.Rows.callWith_type1 (thn (ha.run pos pins s σ H _ I h) fun us s1 ⟨vs, H1, I1, r1, q1⟩ => ?_) hs rfl))
  obtain ⟨a, xs, ex, q1⟩ := q1
  subst ex
  cases r1 with
  | cons r rr =>
    cases rr
    cases r
    have fp2 : ∀ b ∈ [s1.heap.objs.size + 1, s1.heap.objs.size], FpOk X pins H1 b := fun b hb => by
      have e' : b = s1.heap.objs.size + 1 ∨ b = s1.heap.objs.size := by simpa using hb
      have hle : s1.heap.objs.size ≤ b := by omega
      exact I1.fpOk hle (I1.hok.fresh hle)
    rcases q1 with ⟨hq, q⟩ | ⟨hq, q⟩
    · obtain ⟨its, rv, p', hz⟩ := I1.list hq
      refine call_enumerate_list p'.isList fun h' he hit hsz hk => wpAny_pyIter_enum he ?_
      exact ⟨s1.heap.objs.size + 1, [s1.heap.objs.size + 1, s1.heap.objs.size], _, _, H1, rfl, I1.kept (t' := s1.toks) hk, turn_enum a (s1.heap.objs.size + 1) s1.heap.objs.size, ⟨⟨.none, he⟩, hit, Nat.succ_ne_self _⟩, fp2, q⟩
    · obtain ⟨its, rv, p', hz⟩ := I1.tuple hq
      have hlt : a < s1.heap.objs.size := by obtain ⟨_, q, _⟩ := p'; exact Heap.lt_size q
      refine call_enumT (show s1.heap.IsTuple a its.toArray from p') fun h' he hit hk => wpAny_pyIter_enum he ?_
      exact ⟨s1.heap.objs.size + 1, [s1.heap.objs.size + 1, s1.heap.objs.size], _, _, H1, rfl, I1.kept (t' := s1.toks) hk, turn_enumT a (s1.heap.objs.size + 1) s1.heap.objs.size (Nat.ne_of_lt (Nat.lt_succ_of_lt hlt)) (Nat.ne_of_lt hlt) (Nat.succ_ne_self _), ⟨⟨.none, he⟩, hit⟩, fp2, q⟩
def numbered (k : Nat) : List D → List D
  | [] => []
  | x :: r => .tup [.int (k : Nat), x] :: numbered (k + 1) r
theorem numbered_length : ∀ (k : Nat) (xs : List D), (numbered k xs).length = xs.length
  | _, [] => rfl
  | k, _ :: xs => congrArg Nat.succ (numbered_length (k + 1) xs)
theorem numbered_get : ∀ (k : Nat) (xs : List D) (i : Nat) (d : D), (numbered k xs)[i]? = some d → ∃ x, xs[i]? = some x ∧ d = .tup [.int ((k + i : Nat) : Int), x]
  | _, [], _, _, e => by simp [numbered] at e
  | k, x :: xs, 0, d, e => by simp [numbered] at e; exact ⟨x, rfl, e.symm⟩
  | k, x :: xs, i + 1, d, e => by
    obtain ⟨y, e1, e2⟩ := numbered_get (k + 1) xs i d (by simpa [numbered] using e)
    exact ⟨y, by simpa using e1, by rw [e2, show k + 1 + i = k + (i + 1) by omega]⟩
def iEn (te : TrE) : TrI := fun ds h P => te ds h fun d h1 => match d with
  | .tup xs => P (numbered 0 xs) (fun _ => True) h1
  | .ref p => (match h1 p with
    | some (.lst xs) => P (numbered 0 xs) (fun h' => h' p = some (.lst xs)) h1
    | _ => False)
  | _ => False
theorem pair_rep {K : PySem.W.Frag} {mg : Str → Option Value} {H : Hp} {T : Addr} {i : Nat} {x : V} {d : D} (n : H T = none) (r : Rep K mg H d x) : Rep K mg (upd H T (.tup [.int (i : Nat), x])) (.tup [.int ((0 + i : Nat) : Int), d]) (.ref T) :=
  ⟨T, _, rfl, SqT.of upd_same, .cons (by rw [Nat.zero_add]; rfl) (.cons (r.tk (TK.new n)) .nil)⟩
theorem i_enum (hm : X.mg "enumerate" = none) (he : TPE X e te) (hg : Gl X "enumerate" := by rfl) (hs : starEach [e] X.env = [(false, eval e X.env)] := by rfl) : TPI X (.Tuple elts kk tpos) (.Call (.Name "enumerate" p) [e] [] pos) (iEn te) := by
  refine PI_weak (pi_enumA hg hm (pa_cons he pa_nil hs) hs) ?_
  rintro σ H R ⟨ds, h, P, sr, hr, t, l⟩
  refine ⟨ds, h, _, sr, hr, t, fun d h1 v H1 p1 hr1 k1 r1 => ?_⟩
  split at p1
  · obtain ⟨a, vs, rfl, s1, rs⟩ := r1
    refine ⟨a, vs, rfl, .inr ⟨s1, l _ _ _ _ _ p1 hr1 k1 ⟨fun i h2 H2 hi k2 _ _ => ?_, fun h2 H2 k2 _ _ => ?_, fun i h2 H2 x H3 d hd k2 hr2 _ y => ?_⟩⟩⟩
    · rw [numbered_length, rs.length] at hi
      exact ⟨vs, vs[i], k2.tup _ _ s1, by simp [hi]⟩
    · exact ⟨vs, k2.tup _ _ s1, by rw [numbered_length, rs.length]⟩
    · obtain ⟨T, x', rfl, nT, rfl, y⟩ := y
      obtain ⟨z, e1, rfl⟩ := numbered_get _ _ _ _ hd
      obtain ⟨w, e2, e3⟩ := rs.get e1
      have := y vs (k2.tup _ _ s1)
      rw [e2] at this; cases this
      exact ⟨hr2.new nT, TK.new nT, pair_rep nT (e3.tk k2), fun p xs e => by rw [upd_ne (ne_of_none e nT)]; exact e⟩
  · rename_i p
    split at p1
    · rename_i xs q
      obtain ⟨vs, s1, rs⟩ := lstAt hr1 q
      cases (show v = _ from r1)
      refine ⟨p, vs, rfl, .inl ⟨SqL.of s1, l _ _ _ _ _ p1 hr1 k1 ⟨fun i h2 H2 hi k2 hr2 st => ?_, fun h2 H2 k2 hr2 st => ?_, fun i h2 H2 x H3 d hd k2 hr2 st y => ?_⟩⟩⟩
      all_goals obtain ⟨us, s2, rs2⟩ := lstAt hr2 st
      · rw [numbered_length, rs2.length] at hi
        exact ⟨us, us[i], SqL.of s2, by simp [hi]⟩
      · exact ⟨us, SqL.of s2, by rw [numbered_length, rs2.length]; exact Nat.le_refl _⟩
      · obtain ⟨T, x', rfl, nT, rfl, y⟩ := y
        obtain ⟨z, e1, rfl⟩ := numbered_get _ _ _ _ hd
        obtain ⟨w, e2, e3⟩ := rs2.get e1
        have := y us (SqL.of s2)
        rw [e2] at this; cases this
        exact ⟨hr2.new nT, TK.new nT, pair_rep nT e3, fun p xs e => by rw [upd_ne (ne_of_none e nT)]; exact e⟩
    · exact p1.elim
  · exact p1.elim
/-! ### list(range(..)) -/
abbrev TPR (X : Cx) (e : Expr) (tr : TS0 → TH → (Int → Int → TH → Prop) → Prop) : Prop := PRg X e fun σ H Q => ∃ ds h P, SR X.K X.mg H ds σ ∧ HR X.K X.mg h H ∧ tr ds h P ∧ ∀ a b h1 H1, P a b h1 → HR X.K X.mg h1 H1 → TK X.K H H1 → Q a b H1
def rg1 (te : TrE) : TS0 → TH → (Int → Int → TH → Prop) → Prop := fun ds h P => te ds h fun d h1 => match d with
  | .int n => P 0 n h1
  | _ => False
def rg2 (ta tb : TrE) : TS0 → TH → (Int → Int → TH → Prop) → Prop := fun ds h P => ta ds h fun d h1 => tb ds h1 fun d2 h2 => match d, d2 with
  | .int n, .int m => P n m h2
  | _, _ => False
theorem PRg_weak {X : Cx} {e : Expr} {t t' : L2.St → Hp → (Int → Int → Hp → Prop) → Prop} (h : PRg X e t) (w : ∀ σ H Q, t' σ H Q → t σ H Q) : PRg X e t' := fun pins s σ H Q I q => h pins s σ H Q I (w σ H Q q)
theorem r_1 (hm : X.mg "range" = none) (ha : TPE X e te) (hg : Gl X "range" := by rfl) (na : starEach [e] X.env = (false, eval e X.env) :: starEach [] X.env := by rfl) : TPR X (.Call (.Name "range" p) [e] [] pos) (rg1 te) := by
  refine PRg_weak (prg_1 hg hm ha na) ?_
  rintro σ H Q ⟨ds, h, P, sr, hr, t, l⟩
  refine ⟨ds, h, _, sr, hr, t, fun d h1 v H1 p1 hr1 k1 r1 => ?_⟩
  split at p1
  · exact ⟨_, r1, l _ _ _ _ p1 hr1 k1⟩
  · exact p1.elim
theorem r_2 {b : Expr} {tb : TrE} (hm : X.mg "range" = none) (ha : TPE X e te) (hb : TPE X b tb) (hg : Gl X "range" := by rfl) (na : starEach [e, b] X.env = (false, eval e X.env) :: starEach [b] X.env := by rfl)
    (nb : starEach [b] X.env = (false, eval b X.env) :: starEach [] X.env := by rfl) (hp : (backTo pos (starEach [b] X.env)).any (·.1) = false := by rfl) : TPR X (.Call (.Name "range" p) [e, b] [] pos) (rg2 te tb) := by
  refine PRg_weak (prg_2 hg hm ha hb na nb hp) ?_
  rintro σ H Q ⟨ds, h, P, sr, hr, t, l⟩
  refine ⟨ds, h, _, sr, hr, t, fun d h1 v H1 p1 hr1 k1 r1 => ⟨ds, h1, _, sr.tk k1, hr1, p1, fun d2 h2 v2 H2 p2 hr2 k2 r2 => ?_⟩⟩
  split at p2
  · exact ⟨_, _, r1, r2, l _ _ _ _ p2 hr2 (k1.trans k2)⟩
  · exact p2.elim
def bLstRg (tr : TS0 → TH → (Int → Int → TH → Prop) → Prop) : TrE := fun ds h P => tr ds h fun a b h1 => RgOk a b ∧ ∀ q, h1 q = none → P (.ref q) (put h1 q (.lst (upTo a (b - a).toNat)))
theorem rep_rg {K : PySem.W.Frag} {mg : Str → Option Value} {H : Hp} (a b : Int) : Reps K mg H (upTo a (b - a).toNat) (rgV a b) := by
  have e1 : upTo a (b - a).toNat = ((List.range (b - a).toNat).map fun i => a + ((i : Nat) : Int)).map D.int := by unfold upTo; rw [List.map_map]; rfl
  have e2 : rgV a b = ((List.range (b - a).toNat).map fun i => a + ((i : Nat) : Int)).map V.int := by unfold rgV; rw [List.map_map]; rfl
  rw [e1, e2]
  exact Reps.ofInts _
theorem t_listRg {tr : TS0 → TH → (Int → Int → TH → Prop) → Prop} (hc : X.calm = true) (hm : X.mg "list" = none) (he : TPR X e tr) (hg : Gl X "list" := by rfl) (na : starEach [e] X.env = (false, eval e X.env) :: starEach [] X.env := by rfl) : TPE X (.Call (.Name "list" p) [e] [] pos) (bLstRg tr) := by
  refine PE_weak (pe_listRg hc hg hm he na) ?_
  rintro σ H Q ⟨ds, h, P, sr, hr, t, l⟩
  refine ⟨ds, h, _, sr, hr, t, fun a b h1 H1 p1 hr1 k1 => ⟨p1.1, fun q nq => ?_⟩⟩
  exact (l.tk k1).alloc hr1 nq (p1.2 q (hr1.none nq)) (newLst nq (rep_rg a b))
/-! ### dict(d), d a dict -/
def dictD : RAT := fun xs h P => match xs with
  | [.ref p] => (match h p with
    | some (.dct kvs) => ∀ q, h q = none → P (.ref q) (put h q (.dct kvs))
    | _ => False)
  | _ => False
theorem b_dict : CallR X (.type "dict") (lR X.K X.mg dictD) := by
  rintro pins s σ H xs us Q I r ⟨ds, h, P, rr, hr, t, l⟩
  unfold dictD at t
  split at t
  · rename_i p
    obtain ⟨v, rfl, ra⟩ := reps1 rr
    cases (show v = _ from ra)
    split at t
    · rename_i kvs q
      obtain ⟨ks, s1, r1⟩ := dctAt hr q
      exact call_dictD pins s σ H _ us Q I r ⟨p, ks, rfl, .inl s1, fun z nz => l.alloc hr nz (t z (hr.none nz)) ⟨ks, upd_same, r1.tk (TK.new nz)⟩⟩
    · exact t.elim
  · exact t.elim
end
end T
set_option Elab.async false
set_option linter.all false
set_option maxRecDepth 100000
set_option maxHeartbeats 1000000
namespace T
open PySem L2 PyProof.Rows
/-! ### the head's facts -/
/-- a def of the text: where its object stands, its parts, its defaults -/
structure DefG where
  at_ : PySem.W.Frag → Addr
  name : Str
  qual : Str
  params : Arguments
  body : List Stmt
  scope : Scope
  dfl : List He.Dv := []
def fnG (K : PySem.W.Frag) (a : Addr) : He.FnW := match K.lookup a with
  | some ⟨_, _, .func fd, _⟩ => some (fd.name, fd.qualname, fd.params, fd.body, fd.scope, fd.globals, fd.closure, fd.builtins)
  | _ => none
def DefG.val (d : DefG) : He.FnW := some (d.name, d.qual, d.params, .stmts d.body, d.scope, mainGlobals, [], builtinsNs)
def DefG.dvs (K : PySem.W.Frag) (d : DefG) : List V := d.dfl.map (He.Dv.v K)
def DefG.ok (K : PySem.W.Frag) (d : DefG) : Bool := PySem.W.keepIn K (.ref (d.at_ K)) && (match K.lookup (d.at_ K) with
  | some ⟨_, _, .func fd, _⟩ => PySem.W.codeIn K fd.code d.qual && He.dflB K fd.defaults (d.dvs K)
  | _ => false)
theorem DefG.funD {K : PySem.W.Frag} {d : DefG} (e : fnG K (d.at_ K) = d.val) (c : d.ok K = true) : ∃ fd, FunD K d.name d.qual d.params d.body d.scope (d.dvs K) [] (d.at_ K) fd := by
  obtain ⟨kp, c2⟩ := He.ba c
  unfold fnG at e
  cases q : K.lookup (d.at_ K) with
  | none => rw [q] at c2; cases c2
  | some o =>
    obtain ⟨oc, od, dt, osl⟩ := o
    rw [q] at c2 e
    cases dt with
    | func fd =>
      obtain ⟨n1, n2, n3, n4, n5, n6, n7, n8, n9, n10, n11, n12, n13, n14, n15⟩ := fd
      have e2 : (some (n1, n2, n3, n4, n5, n6, n7, n15) : He.FnW) = some (d.name, d.qual, d.params, .stmts d.body, d.scope, mainGlobals, [], builtinsNs) := e
      simp only [Option.some.injEq, Prod.mk.injEq] at e2
      obtain ⟨h1, h2, h3, h4, h5, h6, h7, h8⟩ := e2
      subst h1 h2 h3 h4 h5 h6 h7 h8
      have c3 : (PySem.W.codeIn K n13 d.qual && He.dflB K n8 (d.dvs K)) = true := c2
      obtain ⟨k1, k2⟩ := He.ba c3
      exact ⟨_, ⟨oc, od, n8, n9, n10, n11, n12, n13, n14, osl, rfl, q, k1, He.dflB_ok k2, .inl rfl⟩, kp⟩
    | _ => cases c2
abbrev AlG : Type := Bool × List He.FnW
def obsK (ck : PySem.W.Frag → Bool) (fn : List DefG) (K : PySem.W.Frag) : AlG := (ck K && fn.all fun d => d.ok K, fn.map fun d => fnG K (d.at_ K))
def valK (fn : List DefG) : AlG := (true, fn.map DefG.val)
def SaysK (ck : PySem.W.Frag → Bool) (fn : List DefG) (K : PySem.W.Frag) : Prop := obsK ck fn K = valK fn
/-- what is looked at: the module's names, their classes' names, the defs' codes -/
def refsK (o : Obj) : List Addr := match o.data with
  | .dict es _ => es.toList.flatMap fun e => He.refV e.val
  | .func fd => He.refV fd.code ++ He.refV fd.defaults
  | .cls cd => [cd.ns]
  | .fields vs => (match o.cls with
    | .type n => if n == "property" || n == "staticmethod" || n == "classmethod" then vs.toList.flatMap He.refV else []
    | _ => [])
  | .seq its _ => its.toList.flatMap He.refV
  | _ => []
def stepK (g : Addr → Option Obj) (as : List Addr) : List Addr := as.flatMap fun a => match g a with
  | some o => refsK o
  | none => []
def asK (g : Addr → Option Obj) : Nat → List Addr → List Addr
  | 0, as => as
  | n + 1, as => as ++ asK g n (stepK g as)
def obsKG (ck : PySem.W.Frag → Bool) (fn : List DefG) (g : Addr → Option Obj) : AlG := obsK ck fn (He.frG g (asK g 6 [mainGlobals]))
def hookK (ck : PySem.W.Frag → Bool) (fn : List DefG) : PySem.W.Hook where
  α := AlG
  obs := fun s => obsKG ck fn s.heap.get?
  val := fun _ => valK fn
  says := fun _ h => ∃ K : PySem.W.Frag, K.In h ∧ SaysK ck fn K
  of := fun _ _ e => ⟨_, He.frG_in, e⟩
  keeps := fun _ _ _ ⟨K, hK, c⟩ k => ⟨K, PySem.W.Frag.In.keeps hK k, c⟩
theorem obsKG_eq {ck : PySem.W.Frag → Bool} {fn : List DefG} {g : Addr → Option Obj} {s : Shared} (h : ∀ a, g a = s.heap.get? a) : obsKG ck fn g = (hookK ck fn).obs s := by
  have e : g = s.heap.get? := funext h
  rw [e] <;> rfl
section
variable {ck : PySem.W.Frag → Bool} {fn : List DefG} {K : PySem.W.Frag}
theorem SaysK.fact (c : SaysK ck fn K) : ck K = true := (He.ba (show (ck K && fn.all fun d => d.ok K) = true from congrArg (fun z : AlG => z.1) c)).1
theorem SaysK.def_ (c : SaysK ck fn K) (i : Nat) {d : DefG} (h : fn[i]? = some d := by rfl) : ∃ fd, FunD K d.name d.qual d.params d.body d.scope (d.dvs K) [] (d.at_ K) fd := by
  have c2 := (He.ba (show (ck K && fn.all fun d => d.ok K) = true from congrArg (fun z : AlG => z.1) c)).2
  have e : fn.map (fun d => fnG K (d.at_ K)) = fn.map DefG.val := congrArg (fun z : AlG => z.2) c
  have e2 : (fn.map fun d => fnG K (d.at_ K))[i]? = (fn.map DefG.val)[i]? := by rw [e]
  rw [List.getElem?_map, List.getElem?_map, h] at e2
  exact DefG.funD (Option.some.inj e2) (List.all_eq_true.mp c2 d (List.mem_of_getElem? h))
end
/-! ### a text's statements -/
def defName (s : Stmt) : Str := match s with
  | .FunctionDef n _ _ _ _ _ _ _ _ _ => n
  | _ => Str.empty
/-- a def of the module -/
def gDef (s : Stmt) : DefG := ⟨fun K => He.ga K (defName s), defName s, defName s, defArgs s, defBody s, defScope s, []⟩
/-- a method of the class cn -/
def mDef (cn : Str) (qual : Str) (s : Stmt) (dfl : List He.Dv := []) : DefG := ⟨fun K => He.ma K (He.ga K cn) (defName s), defName s, qual, defArgs s, defBody s, defScope s, dfl⟩
/-- a property's getter -/
def getAd (K : PySem.W.Frag) (p : Addr) : Addr := match PySem.W.recIn K p "property" with
  | some (.ref g :: _) => g
  | _ => 0
def pDef (cn : Str) (qual : Str) (s : Stmt) : DefG := ⟨fun K => getAd K (He.ma K (He.ga K cn) (defName s)), defName s, qual, defArgs s, defBody s, defScope s, []⟩
/-! ### facts -/
def ckGlo (xs : List Str) (K : PySem.W.Frag) : Bool := xs.all fun x => He.eqO (PySem.W.nsIn K mainGlobals x) (some (some (.ref (He.ga K x))))
def ckFree (xs : List Str) (K : PySem.W.Frag) : Bool := xs.all fun x => He.eqO (PySem.W.nsIn K mainGlobals x) (some none)
def ckMeth (C : Addr) (m : Str) (K : PySem.W.Frag) : Bool := He.eqO (PySem.W.findIn K (.ref C) m) (some (some (.ref (He.ma K C m)))) && (PySem.W.isFn K (.ref (He.ma K C m)) && PySem.W.keepIn K (.ref (He.ma K C m)))
def ckProp (C : Addr) (f : Str) (K : PySem.W.Frag) : Bool := He.eqO (PySem.W.findIn K (.ref C) f) (some (some (.ref (He.ma K C f)))) &&
  (decide (PySem.W.specialIn K (.ref (He.ma K C f)) "__get__" = some (some (.builtin "property.__get__"))) && (decide (PySem.W.takesIn K (.ref (He.ma K C f)) = some true) &&
    (match PySem.W.recIn K (He.ma K C f) "property" with
      | some (.ref g :: _) => decide (g = getAd K (He.ma K C f))
      | _ => false)))
def ckCls (C : Addr) (K : PySem.W.Frag) : Bool := PySem.W.plainGet K C Str.empty && (PySem.W.hasDictIn K C && (PySem.W.plainOver K C && He.eqO (PySem.W.findIn K (.ref C) "__setattr__") (some (some (.builtin "object.__setattr__")))))
def ckMk (C : Addr) (K : PySem.W.Frag) : Bool := PySem.W.makesIn K C && (He.eqO (PySem.W.findIn K (.ref C) "__init__") (some (some (.ref (He.ma K C "__init__")))) && (PySem.W.isFn K (.ref (He.ma K C "__init__")) && PySem.W.keepIn K (.ref C)))
def ckIns (C : Addr) (K : PySem.W.Frag) : Bool := He.eqO (PySem.W.findIn K (.ref C) "__class__") (some (some (.builtin "object.__class__"))) &&
  (decide (PySem.W.specialIn K (.builtin "object.__class__") "__get__" = some (some (.builtin "getset_descriptor.__get__"))) && (decide (PySem.W.takesIn K (.builtin "object.__class__") = some true) &&
    (decide (PySem.W.mroIn K C (.type "object") = some true) && (tyNames.all (fun n => n == "NoneType" || decide (PySem.W.kitOne K (.ref C) (.type n) = some false)) && tyNames.all (fun n => decide (PySem.W.kitOne K (.type n) (.ref C) = some false))))))
def ckNo (C : Addr) (fs : List Str) (K : PySem.W.Frag) : Bool := fs.all fun f => He.eqO (PySem.W.findIn K (.ref C) f) (some none)
section
variable {K : PySem.W.Frag} {h : Heap} {mg : Str → Option Value} {C : Addr}
theorem glo_of (X : K.In h) (G : h.Ns mainGlobals mg) {xs : List Str} (c : ckGlo xs K = true) {x : Str} (hx : x ∈ xs) : mg x = some (.ref (He.ga K x)) := PySem.W.mg_of X G (He.eqO_ok (List.all_eq_true.mp c x hx))
theorem free_of (X : K.In h) (G : h.Ns mainGlobals mg) {xs : List Str} (c : ckFree xs K = true) {x : Str} (hx : x ∈ xs) : mg x = none := PySem.W.mg_none_of X G (He.eqO_ok (List.all_eq_true.mp c x hx))
theorem meth_of {m : Str} (c : ckMeth C m K = true) : Meth K C m (He.ma K C m) := by
  obtain ⟨c1, c⟩ := He.ba c
  obtain ⟨c2, c3⟩ := He.ba c
  exact ⟨He.eqO_ok c1, c2, c3⟩
theorem prop_of {f : Str} (c : ckProp C f K = true) : PropOf K C f (He.ma K C f) (getAd K (He.ma K C f)) := by
  obtain ⟨c1, c⟩ := He.ba c
  obtain ⟨c2, c⟩ := He.ba c
  obtain ⟨c3, c4⟩ := He.ba c
  refine ⟨He.eqO_ok c1, of_decide_eq_true c2, of_decide_eq_true c3, ?_⟩
  split at c4
  · rename_i g r e
    rw [← of_decide_eq_true c4]
    exact ⟨r, e⟩
  · cases c4
theorem cls_of (c : ckCls C K = true) : Cls K C := by
  obtain ⟨c1, c⟩ := He.ba c
  obtain ⟨c2, c⟩ := He.ba c
  obtain ⟨c3, c4⟩ := He.ba c
  exact ⟨c1, c2, c3, He.eqO_ok c4⟩
theorem mk_of' (c : ckMk C K = true) : Mk K C (He.ma K C "__init__") := by
  obtain ⟨c1, c⟩ := He.ba c
  obtain ⟨c2, c⟩ := He.ba c
  obtain ⟨c3, c4⟩ := He.ba c
  exact ⟨c1, He.eqO_ok c2, c3, c4⟩
theorem ins_of {cn : Str} (gm : mg cn = some (.ref C)) (cl : ckCls C K = true) (c : ckIns C K = true) : InsF K mg cn C := by
  obtain ⟨c1, c⟩ := He.ba c
  obtain ⟨c2, c⟩ := He.ba c
  obtain ⟨c3, c⟩ := He.ba c
  obtain ⟨c4, c⟩ := He.ba c
  obtain ⟨c5, c6⟩ := He.ba c
  refine ⟨gm, cls_of cl, He.eqO_ok c1, of_decide_eq_true c2, of_decide_eq_true c3, of_decide_eq_true c4, fun n hn h0 => ?_, fun n hn => of_decide_eq_true (List.all_eq_true.mp c6 n hn)⟩
  have := List.all_eq_true.mp c5 n hn
  rw [Bool.or_eq_true] at this
  rcases this with z | z
  · exact absurd (eq_of_beq z) h0
  · exact of_decide_eq_true z
theorem no_of {fs : List Str} (c : ckNo C fs K = true) {f : Str} (hf : f ∈ fs) : NoAttr K C f := He.eqO_ok (List.all_eq_true.mp c f hf)
end
/-- the i-th default, an object -/
def dflK (K : PySem.W.Frag) (f : Addr) (i : Nat) : Addr := match K.lookup f with
  | some ⟨_, _, .func fd, _⟩ => (match fd.defaults with
    | .ref T => (match K.lookup T with
      | some ⟨_, _, .seq its _, _⟩ => (match its.toList[i]? with
        | some (.ref a) => a
        | _ => 0)
      | _ => 0)
    | _ => 0)
  | _ => 0
/-- an empty tuple of the written part -/
def ckNil (a : Addr) (K : PySem.W.Frag) : Bool := match K.lookup a with
  | some ⟨.type c, _, .seq its _, _⟩ => decide (c = "tuple") && decide (its = #[])
  | _ => false
theorem nil_of {K : PySem.W.Frag} {a : Addr} (c : ckNil a K = true) (mg : Str → Option Value) (H : Hp) : Rep K mg H (.tup []) (.ref a) := by
  unfold ckNil at c
  cases q : K.lookup a with
  | none => rw [q] at c; cases c
  | some o =>
    obtain ⟨oc, od, dt, osl⟩ := o
    rw [q] at c
    cases oc with
    | type cc =>
      cases dt with
      | seq its n =>
        obtain ⟨h1, h2⟩ := He.ba (show (decide (cc = "tuple") && decide (its = #[])) = true from c)
        have e2 : its = #[] := of_decide_eq_true h2
        subst e2
        exact ⟨a, [], rfl, .inr ⟨_, #[], n, q, congrArg Value.type (of_decide_eq_true h1), rfl, by decide, .nil⟩, rfl⟩
      | _ => cases c
    | _ => cases dt <;> cases c
/-! ### from a def to what its callers know -/
section
variable {P : Program} {w : World} {K : PySem.W.Frag} {mg : Str → Option Value} {base : Heap} {k : Nat} {x qual : Str} {params : Arguments} {body : List Stmt} {scope : Scope} {f : Addr} {fd : FuncData} {ps : List Str} {c : Con}
theorem cal_of (F : FunD K x qual params body scope [] [] f fd) (hm : mg x = some (.ref f)) (G : FnOk P w K mg base CX0 k f fd ps (toSp K mg c))
    (h : ∀ (kV doc pm : Value) (an : Option Addr) (cdv ct : Value) (us : List Value), us.length = ps.length → bindArgs (PySem.W.fnOf x qual params body scope .none kV doc pm an cdv ct) ⟨us, []⟩ = pure (ps.zip us)) : Cal P w K mg base k x [] c :=
  ⟨f, fd, ps, [], [], G, hm, F.kp, F.bindsN h, .nil, fun _ => rfl⟩
theorem Cal.mono {j : Nat} {dv : List D} (F : Cal P w K mg base j x dv c) (h : j ≤ k) : Cal P w K mg base k x dv c := by
  obtain ⟨f, fd, ps, ds, vs, G, r⟩ := F
  exact ⟨f, fd, ps, ds, vs, G.mono h, r⟩
end
end T
set_option Elab.async false
set_option linter.all false
set_option maxRecDepth 100000
set_option maxHeartbeats 1000000
namespace T
open PySem L2 PyProof.Rows
/-! ### list(zip(xs, ys)), lists -/
theorem zip_no_len : typeLookup (.type "zip") "__len__" = pure none := by rw [typeLookup_type, builtinLookup_eq_fast]; kernel_rfl
theorem zip_no_hint : typeLookup (.type "zip") "__length_hint__" = pure none := by rw [typeLookup_type, builtinLookup_eq_fast]; kernel_rfl
/-- the pairs that stand at us -/
inductive PairsAt (h : Heap) : List Value → List Value → List Value → Prop
  | nil : PairsAt h [] [] []
  | cons {T : Addr} {x y : Value} {us xs ys : List Value} : IsPair h T x y → PairsAt h us xs ys → PairsAt h (.ref T :: us) (x :: xs) (y :: ys)
theorem PairsAt.keep {h h' : Heap} : ∀ {us xs ys : List Value}, PairsAt h us xs ys → (∀ T x y, .ref T ∈ us → IsPair h T x y → IsPair h' T x y) → PairsAt h' us xs ys
  | _, _, _, .nil, _ => .nil
  | _, _, _, .cons a t, k => .cons (k _ _ _ List.mem_cons_self a) (t.keep fun T x y m => k T x y (List.mem_cons_of_mem _ m))
theorem PairsAt.snoc {h : Heap} {T : Addr} {x y : Value} (a : IsPair h T x y) : ∀ {us xs ys : List Value}, PairsAt h us xs ys → PairsAt h (us ++ [.ref T]) (xs ++ [x]) (ys ++ [y])
  | _, _, _, .nil => .cons a .nil
  | _, _, _, .cons b t => .cons b (t.snoc a)
/-- a zip on its way -/
structure ZipGo (h : Heap) (z TI TO i1 i2 l1 l2 : Addr) (xs ys : Array Value) (i : Nat) : Prop where
  z : (IsZip h z TI TO .none ∧ ∃ a b, IsPair h TO a b) ∨ ∃ T f oT, IsZipHeld h z TI TO T f ∧ h.get? T = some oT ∧ T ≠ z ∧ T ≠ TO ∧ T ≠ i1 ∧ T ≠ i2
  TI : IsPair h TI (.ref i1) (.ref i2)
  i1 : h.IsListIter i1 l1 i
  i2 : h.IsListIter i2 l2 i
  l1 : h.IsList l1 xs
  l2 : h.IsList l2 ys
  to : ∃ o, h.get? TO = some o
theorem ZipGo.keep {h h' : Heap} {z TI TO i1 i2 l1 l2 S : Addr} {xs ys : Array Value} {i : Nat} (g : ZipGo h z TI TO i1 i2 l1 l2 xs ys i) (hS : S ≠ z ∧ S ≠ TI ∧ S ≠ TO ∧ S ≠ i1 ∧ S ≠ i2 ∧ S ≠ l1 ∧ S ≠ l2)
    (hT : ∀ T f, IsZipHeld h z TI TO T f → T ≠ S) (k : ∀ b o, b ≠ S → h.get? b = some o → h'.get? b = some o) : ZipGo h' z TI TO i1 i2 l1 l2 xs ys i := by
  obtain ⟨a1, a2, a3, a4, a5, a6, a7⟩ := hS
  refine ⟨g.z.elim (fun ⟨p, a, b, q⟩ => .inl ⟨k _ _ a1.symm p, a, b, k _ _ a3.symm q⟩) (fun ⟨T, f, oT, p, q, r⟩ => .inr ⟨T, f, oT, k _ _ a1.symm p, k _ _ (hT T f p) q, r⟩), k _ _ a2.symm g.TI, g.i1.at fun o e => k _ _ a4.symm e, g.i2.at fun o e => k _ _ a5.symm e, g.l1.at fun o e => k _ _ a6.symm e, g.l2.at fun o e => k _ _ a7.symm e, g.to.imp fun o e => k _ _ a3.symm e⟩
section
variable {prog : Program} {w : World} {A : Around}
/-- the tuples that have come: new ones, apart from all -/
structure AccOk (N0 : Nat) (S z TO i1 i2 : Addr) (h : Heap) (acc : Array Value) : Prop where
  nd : acc.toList.Nodup
  of : ∀ T, .ref T ∈ acc.toList → (N0 ≤ T ∧ T < h.objs.size) ∧ T ≠ S ∧ T ≠ z ∧ T ≠ TO ∧ T ≠ i1 ∧ T ≠ i2
  sz : N0 ≤ h.objs.size
theorem zip_loop {s : Shared} {N0 : Nat} {R : Result → Shared → Prop} {z TI TO i1 i2 l1 l2 S : Addr} {xs ys : Array Value} {h0 : Heap} {res : Value} (hh : A.in1.in1.handled = none) (D : ZipApart z TI TO i1 i2 l1 l2) (hS : S ≠ z ∧ S ≠ TI ∧ S ≠ TO ∧ S ≠ i1 ∧ S ≠ i2 ∧ S ≠ l1 ∧ S ≠ l2) (hn : xs.size ≤ sizeLine)
    (fin : ∀ h acc c, h.get? S = some { cls := .type "list", dict := none, data := .seq acc c, slots := #[] } → PairsAt h acc.toList (xs.toList.take (min xs.size ys.size)) (ys.toList.take (min xs.size ys.size)) → (acc.toList.Nodup ∧ ∀ T, .ref T ∈ acc.toList → N0 ≤ T ∧ T ≠ S) → (∀ b o, b ≠ S → b ≠ z → b ≠ TO → b ≠ i1 → b ≠ i2 → h0.get? b = some o → h.get? b = some o) → R (.ok (.ret res)) { s with heap := h }) :
    ∀ (k i : Nat) (h : Heap) (acc : Array Value) (c : Nat), min xs.size ys.size - i = k → i ≤ min xs.size ys.size → ZipGo h z TI TO i1 i2 l1 l2 xs ys i → h.get? S = some { cls := .type "list", dict := none, data := .seq acc c, slots := #[] } →
      PairsAt h acc.toList (xs.toList.take i) (ys.toList.take i) → acc.size = i → AccOk N0 S z TO i1 i2 h acc → (∀ T f, IsZipHeld h z TI TO T f → T ≠ S) → (∀ b o, b ≠ S → b ≠ z → b ≠ TO → b ≠ i1 → b ≠ i2 → h0.get? b = some o → h.get? b = some o) →
      codeAny (model prog w) A (.builtin "list.extend.loop" ⟨[.ref S, .ref z, res], []⟩) R { s with heap := h } := by
  have done : ∀ (h : Heap) (acc : Array Value) (c : Nat), ZipGo h z TI TO i1 i2 l1 l2 xs ys (min xs.size ys.size) → h.get? S = some { cls := .type "list", dict := none, data := .seq acc c, slots := #[] } →
      PairsAt h acc.toList (xs.toList.take (min xs.size ys.size)) (ys.toList.take (min xs.size ys.size)) → AccOk N0 S z TO i1 i2 h acc → (∀ b o, b ≠ S → b ≠ z → b ≠ TO → b ≠ i1 → b ≠ i2 → h0.get? b = some o → h.get? b = some o) →
      codeAny (model prog w) A (.builtin "list.extend.loop" ⟨[.ref S, .ref z, res], []⟩) R { s with heap := h } := by
    intro h acc c g hL hP hA hk
    refine codeAny_builtin F.entry_extend_loop ?_
    rw [Around.under_plainId F.plain_extend_loop _]
    show wpAny _ A.in1 (pyNext (.ref z) >>= _) _ _ _
    have hend : xs[min xs.size ys.size]? = none ∨ ys[min xs.size ys.size]? = none := by
      by_cases q : xs.size ≤ ys.size
      · exact .inl (by simp; omega)
      · exact .inr (by simp; omega)
    have go : ∀ h', (∀ b o, b ≠ z → b ≠ TO → b ≠ i1 → b ≠ i2 → h.get? b = some o → h'.get? b = some o) → R (.ok (.ret res)) { s with heap := h' } := fun h' k => by
      refine fin h' acc c (k _ _ hS.1 hS.2.2.1 hS.2.2.2.1 hS.2.2.2.2.1 hL) (hP.keep fun T x y m p => ?_) ⟨hA.nd, fun T m => ⟨(hA.of T m).1.1, (hA.of T m).2.1⟩⟩ fun b o b1 b2 b3 b4 b5 e => k b o b2 b3 b4 b5 (hk b o b1 b2 b3 b4 b5 e)
      obtain ⟨_, _, n2, n3, n4, n5⟩ := hA.of T m
      exact k _ _ n2 n3 n4 n5 p
    rcases g.z with ⟨p, a, b, q⟩ | ⟨T, f, oT, p, q, r1, r2, r3, r4⟩
    · exact wpAny_bind (wpAny_pyNext_zip_end (s := { s with heap := h }) (A := A.in1) hh D p g.TI q g.i1 g.i2 g.l1 g.l2 hend fun h' k => wpAny_pure (go h' fun b o b1 b2 b3 b4 e => k b o b1 b2 b3 b4 e))
    · exact wpAny_bind (wpAny_pyNext_zip_end_held (s := { s with heap := h }) (A := A.in1) hh D p q g.TI g.i1 g.i2 g.l1 g.l2 hend fun h' k => wpAny_pure (go h' fun b o b1 b2 b3 b4 e => k b o b1 b3 b4 e))
  intro k
  induction k with
  | zero =>
    intro i h acc c hk hi g hL hP hsz hA hTS h0k
    have e : i = min xs.size ys.size := by omega
    rw [e] at g hP
    exact done h acc c g hL hP hA h0k
  | succ k ih =>
    intro i h acc c hk hi g hL hP hsz hA hTS h0k
    have hlt : i < xs.size := by omega
    have hlt2 : i < ys.size := by omega
    refine codeAny_builtin F.entry_extend_loop ?_
    rw [Around.under_plainId F.plain_extend_loop _]
    show wpAny _ A.in1 (pyNext (.ref z) >>= _) _ _ _
    have hzs : z < h.objs.size := by rcases g.z with ⟨p, _⟩ | ⟨T, f, oT, p, _⟩ <;> exact Heap.lt_size p
    have hTO : TO < h.objs.size := by obtain ⟨_, q⟩ := g.to; exact Heap.lt_size q
    have hi1 : i1 < h.objs.size := by obtain ⟨_, q, _⟩ := g.i1; exact Heap.lt_size q
    have hi2 : i2 < h.objs.size := by obtain ⟨_, q, _⟩ := g.i2; exact Heap.lt_size q
    have hSs : S < h.objs.size := Heap.lt_size hL
    have turn : ∀ h' : Heap, (∀ b o, b ≠ z → b ≠ TO → b ≠ i1 → b ≠ i2 → h.get? b = some o → h'.get? b = some o) → ZipGo h' z TI TO i1 i2 l1 l2 xs ys (i + 1) → IsPair h' h.objs.size xs[i] ys[i] → (∀ T f, IsZipHeld h' z TI TO T f → T ≠ S) → h.objs.size ≠ TO → h'.objs.size = h.objs.size + 1 →
        wpAny (model prog w) A.in1 (updateSeq S (·.push (.ref h.objs.size)) >>= fun _ => again (.builtin "list.extend.loop" ⟨[.ref S, .ref z, res], []⟩)) (fun fin s' => match fin with | .done f => R (.ok f) s' | .again c' => c'.quiet = true ∧ codeAny (model prog w) A c' R s') (fun e s' => R (.error e) s') { s with heap := h' } := by
      intro h' k' g' hp hTS' hne hsz1
      have hL' := k' _ _ hS.1 hS.2.2.1 hS.2.2.2.1 hS.2.2.2.2.1 hL
      refine wpAny_bind ?_
      refine wpAny_updateSeq (s := { s with heap := h' }) hL' rfl (wpAny_pure ⟨plainId_quiet F.plain_extend_loop _, ?_⟩) (by rw [hsz]; omega) (by show (acc.push _).size ≤ sizeLine + 1; rw [Array.size_push, hsz]; omega)
      have oth : ∀ b o, b ≠ S → h'.get? b = some o → (h'.update S (Obj.mapSeq (·.push (Value.ref h.objs.size)))).get? b = some o := fun b o hb e => (Heap.get?_update_other _ _ (Ne.symm hb)).trans e
      have hz1 : (h'.update S (Obj.mapSeq (·.push (Value.ref h.objs.size)))).objs.size = h'.objs.size := Heap.size_update ..
      have hA' : AccOk N0 S z TO i1 i2 (h'.update S (Obj.mapSeq (·.push (Value.ref h.objs.size)))) (acc.push (.ref h.objs.size)) := by
        have hz0 := hA.sz
        refine ⟨?_, fun T m => ?_, by rw [hz1, hsz1]; omega⟩
        · rw [Array.toList_push]
          refine List.nodup_append.mpr ⟨hA.nd, by simp, fun a ha b hb e => ?_⟩
          have eb : b = .ref h.objs.size := by simpa using hb
          rw [e, eb] at ha
          exact absurd (hA.of _ ha).1.2 (Nat.lt_irrefl _)
        · rw [Array.toList_push, List.mem_append] at m
          rcases m with m | m
          · obtain ⟨⟨m1, m2⟩, m3⟩ := hA.of T m
            exact ⟨⟨m1, by rw [hz1, hsz1]; omega⟩, m3⟩
          · have e : T = h.objs.size := by simpa using m
            rw [e]
            exact ⟨⟨hz0, by rw [hz1, hsz1]; exact Nat.lt_succ_self _⟩, Nat.ne_of_gt hSs, Nat.ne_of_gt hzs, hne, Nat.ne_of_gt hi1, Nat.ne_of_gt hi2⟩
      refine ih (i + 1) (h'.update S (Obj.mapSeq (·.push (Value.ref h.objs.size)))) (acc.push (.ref h.objs.size)) _ (by omega) (by omega) (g'.keep hS hTS' oth) (Heap.get?_update_self _ hL' rfl) ?_ (by rw [Array.size_push, hsz]) hA' (fun T f q => ?_) fun b o b1 b2 b3 b4 b5 e => oth b o b1 (k' b o b2 b3 b4 b5 (h0k b o b1 b2 b3 b4 b5 e))
      · have e1 : xs.toList.take (i + 1) = xs.toList.take i ++ [xs[i]] := by rw [List.take_add_one]; simp [hlt]
        have e2 : ys.toList.take (i + 1) = ys.toList.take i ++ [ys[i]] := by rw [List.take_add_one]; simp [hlt2]
        rw [e1, e2, Array.toList_push]
        refine PairsAt.snoc (oth _ _ (Nat.ne_of_gt hSs) hp) (hP.keep fun T x y m p => ?_)
        obtain ⟨_, n1, n2, n3, n4, n5⟩ := hA.of T m
        exact oth _ _ n1 (k' _ _ n2 n3 n4 n5 p)
      · refine hTS' T f ?_
        have q2 : (h'.update S (Obj.mapSeq (·.push (Value.ref h.objs.size)))).get? z = h'.get? z := Heap.get?_update_other _ _ hS.1
        exact q2.symm.trans q
    have held_T : ∀ (h' : Heap) (T : Addr) (f : Bool), IsZipHeld h' z TI TO T f → T ≠ S → ∀ T' f', IsZipHeld h' z TI TO T' f' → T' ≠ S := fun h' T f p n T' f' p' => by
      have q := p.symm.trans p'
      have e : rawInt T = rawInt T' := by
        have := Option.some.inj q
        simp only [Obj.mk.injEq, Data.fields.injEq] at this
        have := congrArg (fun a : Array Value => a[0]?) this.2.2.1
        simpa using this
      have e2 : T = T' := by
        have : (T : Int) = (T' : Int) := by injection e
        exact Int.ofNat.inj this
      rw [← e2]; exact n
    rcases g.z with ⟨p, a, b, q⟩ | ⟨T, f, oT, p, q, r1, r2, r3, r4⟩
    · refine wpAny_bind (wpAny_pyNext_zip_item (s := { s with heap := h }) (A := A.in1) D p g.TI q g.i1 g.i2 g.l1 g.l2 (x := xs[i]) (y := ys[i]) (by simp [hlt]) (by simp [hlt2]) fun h' z' TO' i1' i2' hp hsz' k' => ?_)
      have p' : IsZipHeld h' z TI TO h.objs.size false := z'
      refine turn h' k' ⟨.inr ⟨h.objs.size, false, _, p', hp, Nat.ne_of_gt hzs, Nat.ne_of_gt hTO, Nat.ne_of_gt hi1, Nat.ne_of_gt hi2⟩, ?_, i1', i2', ?_, ?_, ⟨_, TO'⟩⟩ hp (held_T h' _ _ p' (Nat.ne_of_gt hSs)) (Nat.ne_of_gt hTO) hsz'
      · exact k' _ _ D.TIz D.TITO D.TIi1 D.TIi2 g.TI
      · exact g.l1.at fun o e => k' _ _ D.l1z D.l1TO D.l1i1 D.l1i2 e
      · exact g.l2.at fun o e => k' _ _ D.l2z D.l2TO D.l2i1 D.l2i2 e
    · refine wpAny_bind (wpAny_pyNext_zip_item_held (s := { s with heap := h }) (A := A.in1) D p q g.TI g.i1 g.i2 g.l1 g.l2 (x := xs[i]) (y := ys[i]) (by simp [hlt]) (by simp [hlt2]) fun h' p' i1' i2' hp hsz' k' => ?_)
      refine turn h' (fun b o b1 _ b3 b4 e => k' b o b1 b3 b4 e) ⟨.inr ⟨T, true, oT, p', k' _ _ r1 r3 r4 q, r1, r2, r3, r4⟩, ?_, i1', i2', ?_, ?_, g.to.imp fun o e => k' _ _ D.TOz D.TOi1 D.TOi2 e⟩ hp (held_T h' _ _ p' (hTS T f p)) (Nat.ne_of_gt hTO) hsz'
      · exact k' _ _ D.TIz D.TIi1 D.TIi2 g.TI
      · exact g.l1.at fun o e => k' _ _ D.l1z D.l1i1 D.l1i2 e
      · exact g.l2.at fun o e => k' _ _ D.l2z D.l2i1 D.l2i2 e
/-- list.extend(S, zip) -/
theorem zip_extend {s : Shared} {N0 : Nat} {R : Result → Shared → Prop} {z TI TO i1 i2 l1 l2 S : Addr} {xs ys : Array Value} {c₀ : Nat} (hN : N0 ≤ s.heap.objs.size) (hh : A.handled = none) (D : ZipApart z TI TO i1 i2 l1 l2) (hS : S ≠ z ∧ S ≠ TI ∧ S ≠ TO ∧ S ≠ i1 ∧ S ≠ i2 ∧ S ≠ l1 ∧ S ≠ l2) (hn : xs.size ≤ sizeLine)
    (hz : IsZip s.heap z TI TO .none) (hTI : IsPair s.heap TI (.ref i1) (.ref i2)) (hTO : IsPair s.heap TO .none .none) (h1 : s.heap.IsListIter i1 l1 0) (h2 : s.heap.IsListIter i2 l2 0) (hl1 : s.heap.IsList l1 xs) (hl2 : s.heap.IsList l2 ys)
    (hL : s.heap.get? S = some { cls := .type "list", data := .seq #[] c₀ })
    (fin : ∀ h acc c, h.get? S = some { cls := .type "list", dict := none, data := .seq acc c, slots := #[] } → PairsAt h acc.toList (xs.toList.take (min xs.size ys.size)) (ys.toList.take (min xs.size ys.size)) → (acc.toList.Nodup ∧ ∀ T, .ref T ∈ acc.toList → N0 ≤ T ∧ T ≠ S) → (∀ b o, b ≠ S → b ≠ z → b ≠ TO → b ≠ i1 → b ≠ i2 → s.heap.get? b = some o → h.get? b = some o) → R (.ok (.ret .none)) { s with heap := h }) :
    wpAny (model prog w) A.in1 (Builtin.List.listExtendWith (.ref S) (.ref z) .none)
      (fun fin s' => match fin with | .done f => R (.ok f) s' | .again c' => c'.quiet = true ∧ codeAny (model prog w) A c' R s') (fun e s' => R (.error e) s') s := by
  have hSz : S ≠ z := hS.1
  unfold Builtin.List.listExtendWith
  refine wpAny_bind (wpAny_typeOf (T := "zip") ⟨_, hz, rfl⟩ ?_)
  have q1 : Builtin.List.listSameRef (.ref S) (.ref z) = false := by simp [Builtin.List.listSameRef, hSz]
  have q2 : (Value.type "zip" == Value.type "list") = false := by decide
  have q3 : (Value.type "zip" == Value.type "tuple") = false := by decide
  simp only [q1, q2, q3, Bool.or_false, Bool.false_eq_true, if_false]
  refine wpAny_bind (wpAny_pyIter_zip hz ?_)
  refine wpAny_bind (wpAny_holding ?_)
  unfold Builtin.List.listLengthHint
  refine wpAny_bind (wpAny_specialOf (T := "zip") ⟨_, hz, rfl⟩ zip_no_len ?_)
  show wpAny _ A.in1 (specialOf (Value.ref z) (Str.ofString "__length_hint__") >>= _) _ _ _
  refine wpAny_bind (wpAny_specialOf (T := "zip") ⟨_, hz, rfl⟩ zip_no_hint ?_)
  refine wpAny_pure ?_
  show wpAny _ A.in1 (rule "list.extend.makes-room" >>= fun _ => Builtin.List.listTouch (.ref S) >>= fun _ => again (.builtin "list.extend.loop" ⟨[.ref S, .ref z, .none], []⟩)) _ _ _
  refine wpAny_bind (wpAny_rule ?_)
  refine wpAny_bind ?_
  show wpAny _ A.in1 (updateSeq S (·.push .none) >>= fun _ => updateSeq S (·.pop)) _ _ _
  refine wpAny_bind (wpAny_updateSeq hL rfl ?_)
  have hL2 := Heap.get?_update_self (Obj.mapSeq (·.push Value.none)) hL rfl
  refine wpAny_updateSeq (hz := by seq_fits) hL2 rfl ?_
  have hL3 := Heap.get?_update_self (Obj.mapSeq (·.pop)) hL2 rfl
  have oth : ∀ b o, b ≠ S → s.heap.get? b = some o → ((s.heap.update S (Obj.mapSeq (·.push Value.none))).update S (Obj.mapSeq (·.pop))).get? b = some o := fun b o hb e => (Heap.get?_update_other _ _ (Ne.symm hb)).trans ((Heap.get?_update_other _ _ (Ne.symm hb)).trans e)
  have ne0 : ∀ T f, ¬ IsZipHeld s.heap z TI TO T f := fun T f q => by
    have e := hz.symm.trans q
    have := Option.some.inj e
    simp only [Obj.mk.injEq, Data.fields.injEq] at this
    have := congrArg (fun a : Array Value => a[0]?) this.2.2.1
    simp at this
    cases this
  refine wpAny_pure ⟨plainId_quiet F.plain_extend_loop _, ?_⟩
  refine zip_loop (s := s) (N0 := N0) (h0 := s.heap) hh D hS hn fin _ 0 _ #[] _ rfl (Nat.zero_le _) ((ZipGo.mk (.inl ⟨hz, _, _, hTO⟩) hTI h1 h2 hl1 hl2 ⟨_, hTO⟩).keep hS (fun T f q => absurd q (ne0 T f)) oth) hL3 (by simpa using PairsAt.nil) rfl ⟨by simp, by simp, by rw [Heap.size_update, Heap.size_update]; exact hN⟩ (fun T f q => ?_) fun b o b1 _ _ _ _ e => oth b o b1 e
  refine absurd ?_ (ne0 T f)
  have q' : ((s.heap.update S (Obj.mapSeq (·.push Value.none))).update S (Obj.mapSeq (·.pop))).get? z = s.heap.get? z := (Heap.get?_update_other _ _ hSz).trans (Heap.get?_update_other _ _ hSz)
  exact q'.symm.trans q
theorem call_list_zip {s : Shared} {Q : Value → Shared → Prop} {E : Value → Shared → Prop} {z TI TO i1 i2 l1 l2 : Addr} {xs ys : Array Value} (hh : A.handled = none) (D : ZipApart z TI TO i1 i2 l1 l2) (hn : xs.size ≤ sizeLine)
    (hz : IsZip s.heap z TI TO .none) (hTI : IsPair s.heap TI (.ref i1) (.ref i2)) (hTO : IsPair s.heap TO .none .none) (h1 : s.heap.IsListIter i1 l1 0) (h2 : s.heap.IsListIter i2 l2 0) (hl1 : s.heap.IsList l1 xs) (hl2 : s.heap.IsList l2 ys)
    (hQ : ∀ h acc c, h.get? s.heap.objs.size = some { cls := .type "list", dict := none, data := .seq acc c, slots := #[] } → PairsAt h acc.toList (xs.toList.take (min xs.size ys.size)) (ys.toList.take (min xs.size ys.size)) → (acc.toList.Nodup ∧ ∀ T, .ref T ∈ acc.toList → s.heap.objs.size ≤ T ∧ T ≠ s.heap.objs.size) → (∀ b o, b ≠ z → b ≠ TO → b ≠ i1 → b ≠ i2 → s.heap.get? b = some o → h.get? b = some o) → Q (.ref s.heap.objs.size) { s with heap := h }) :
    wpAny (model prog w) A (call (.type "list") [.ref z]) Q E s := by
  refine callType_codes (Q₁ := fun obj s₁ => obj = .ref s.heap.objs.size ∧ s₁ = { s with heap := s.heap.push { cls := .type "list", data := .seq #[] } }) F.called_list (F.typeCall_list_1 _) F.entry_list_init
    (code_list_new _ ⟨rfl, rfl⟩) fun obj s₁ h₁ => ?_
  obtain ⟨rfl, rfl⟩ := h₁
  have hS : (s.heap.push { cls := .type "list", data := .seq #[] }).get? s.heap.objs.size = some { cls := .type "list", data := .seq #[] } := Heap.get?_push_size _ rfl
  have lt : ∀ {b o}, s.heap.get? b = some o → s.heap.objs.size ≠ b := fun e => Nat.ne_of_gt (Heap.lt_size e)
  have hSS : s.heap.objs.size ≠ z ∧ s.heap.objs.size ≠ TI ∧ s.heap.objs.size ≠ TO ∧ s.heap.objs.size ≠ i1 ∧ s.heap.objs.size ≠ i2 ∧ s.heap.objs.size ≠ l1 ∧ s.heap.objs.size ≠ l2 := by
    refine ⟨lt hz, lt hTI, lt hTO, ?_, ?_, ?_, ?_⟩
    · obtain ⟨_, q, _⟩ := h1; exact lt q
    · obtain ⟨_, q, _⟩ := h2; exact lt q
    · obtain ⟨_, q, _⟩ := hl1; exact lt q
    · obtain ⟨_, q, _⟩ := hl2; exact lt q
  have pu : ∀ {b o}, s.heap.get? b = some o → (s.heap.push { cls := .type "list", data := .seq #[] }).get? b = some o := fun e => Heap.get?_push_of_some _ e
  refine ⟨⟨_, hS, rfl⟩, F.args_list_init_2 _ _, ?_⟩
  show wpAny _ A.in1.in1 (do let old ← Builtin.List.listItems (.ref s.heap.objs.size); Builtin.List.listUpdate (.ref s.heap.objs.size) (fun _ => #[]); letGo old.toList.reverse; Builtin.List.listExtendWith (.ref s.heap.objs.size) (.ref z) .none) _ _ _
  refine wpAny_bind ?_
  unfold Builtin.List.listItems
  refine wpAny_bind (wpAny_seqItems hS rfl (wpAny_pure ?_))
  show wpAny _ _ (updateSeq s.heap.objs.size (fun _ => #[]) >>= fun _ => letGo (#[] : Array Value).toList.reverse >>= fun _ => Builtin.List.listExtendWith (.ref s.heap.objs.size) (.ref z) .none) _ _ _
  refine wpAny_bind (wpAny_updateSeq hS rfl ?_)
  have hS₂ := Heap.get?_update_self (Obj.mapSeq (fun _ => (#[] : Array Value))) hS rfl
  have oth : ∀ b o, b ≠ s.heap.objs.size → s.heap.get? b = some o → ((s.heap.push { cls := .type "list", data := .seq #[] }).update s.heap.objs.size (Obj.mapSeq (fun _ => (#[] : Array Value)))).get? b = some o :=
    fun b o hb e => (Heap.get?_update_other _ _ (Ne.symm hb)).trans (pu e)
  refine wpAny_bind (wpAny_letGo ?_)
  obtain ⟨n1, n2, n3, n4, n5, n6, n7⟩ := hSS
  refine zip_extend (A := A.in1) (N0 := s.heap.objs.size) (s := { s with heap := (s.heap.push { cls := .type "list", data := .seq #[] }).update s.heap.objs.size (Obj.mapSeq (fun _ => (#[] : Array Value))) }) (by show s.heap.objs.size ≤ (Heap.update _ _ _).objs.size; rw [Heap.size_update, Heap.size_push]; exact Nat.le_succ _) hh D ⟨n1, n2, n3, n4, n5, n6, n7⟩ hn (oth _ _ n1.symm hz) (oth _ _ n2.symm hTI) (oth _ _ n3.symm hTO) (h1.at fun o e => oth _ _ n4.symm e) (h2.at fun o e => oth _ _ n5.symm e) (hl1.at fun o e => oth _ _ n6.symm e) (hl2.at fun o e => oth _ _ n7.symm e) hS₂ fun h acc c g p nd k => ?_
  exact ⟨rfl, hQ h acc c g p nd fun b o b1 b2 b3 b4 e => k b o (fun z => by rw [z] at e; exact absurd (Heap.lt_size e) (Nat.lt_irrefl _)) b1 b2 b3 b4 (oth b o (fun z => by rw [z] at e; exact absurd (Heap.lt_size e) (Nat.lt_irrefl _)) e)⟩
end
section
variable {X : Cx} {e e2 : Expr} {ta tb : TrE} {pos p q2 p2 : Pos}
/-- tracking them -/
theorem pairs_track {pins : List (Addr × Obj)} {σ : L2.St} {s s3 : Shared} {H0 : Hp} (I0 : Inv X pins σ H0 s) : ∀ {us xs ys : List Value} {vx vy : List V} {dx dy : List D} {H : Hp}, PairsAt s3.heap us xs ys → us.Nodup → (∀ T, .ref T ∈ us → s.heap.objs.size ≤ T ∧ H T = none) →
    Vals vx xs → Vals vy ys → Reps X.K X.mg H dx vx → Reps X.K X.mg H dy vy → Inv X pins σ H s3 →
    ∃ (H2 : Hp) (ts : List V), Inv X pins σ H2 s3 ∧ TK X.K H H2 ∧ (∀ h, HR X.K X.mg h H → HR X.K X.mg h H2) ∧ (∀ b, H b = none → .ref b ∉ us → H2 b = none) ∧ Vals ts us ∧ Reps X.K X.mg H2 ((dx.zip dy).map fun p => .tup [p.1, p.2]) ts
  | _, _, _, _, _, dx, dy, H, .nil, _, _, .nil, .nil, rx, ry, I => by
    have e1 : dx = [] := by have := rx.length; exact List.eq_nil_of_length_eq_zero this
    subst e1
    exact ⟨H, [], I, TK.refl _, fun _ z => z, fun _ z _ => z, .nil, rfl⟩
  | _, _, _, a :: _, a' :: _, dx, dy, H, .cons (T := T) hp t, nd, hT, .cons v1 r1, .cons v2 r2, rx, ry, I => by
    cases dx with
    | nil => cases rx
    | cons d dx =>
      cases dy with
      | nil => cases ry
      | cons d' dy =>
        obtain ⟨_, _, e, ra, rx⟩ := rx; obtain ⟨rfl, rfl⟩ := List.cons.inj e
        obtain ⟨_, _, e, ra', ry⟩ := ry; obtain ⟨rfl, rfl⟩ := List.cons.inj e
        obtain ⟨nd1, nd2⟩ := List.nodup_cons.mp nd
        obtain ⟨hle, hn⟩ := hT T List.mem_cons_self
        have I2 : Inv X pins σ (upd H T (.tup [a, a'])) s3 := I.take (h' := s3.heap) (t' := s3.toks) (fun _ _ _ e => e) (I0.fpOk hle hn) ⟨by show 2 ≤ sizeLine; decide, _, .cons v1 (.cons v2 .nil), ⟨_, hp, rfl, _, rfl⟩⟩
        have k0 : TK X.K H (upd H T (.tup [a, a'])) := TK.new hn
        obtain ⟨H2, ts, J, k, hr, hn2, rv, rr⟩ := pairs_track I0 t nd2 (fun T' m => ⟨(hT T' (List.mem_cons_of_mem _ m)).1, by
          rw [upd_ne (fun e => nd1 (by rw [← e]; exact m))]; exact (hT T' (List.mem_cons_of_mem _ m)).2⟩) r1 r2 (rx.tk k0) (ry.tk k0) I2
        refine ⟨H2, .ref T :: ts, J, k0.trans k, fun h z => hr h (z.new hn), fun b z m => hn2 b (by rw [upd_ne (fun e => m (by rw [e]; exact List.mem_cons_self))]; exact z) (fun q => m (List.mem_cons_of_mem _ q)), .cons rfl rv, ?_⟩
        exact .cons ⟨T, _, rfl, k.tup _ _ (SqT.of upd_same), .cons (ra.tk (k0.trans k)) (.cons (ra'.tk (k0.trans k)) .nil)⟩ rr
theorem reps_zip_take {K : PySem.W.Frag} {mg : Str → Option Value} {H : Hp} : ∀ (dx dy : List D), ((dx.take (min dx.length dy.length)).zip (dy.take (min dx.length dy.length))) = dx.zip dy
  | [], dy => by simp
  | d :: dx, [] => by simp
  | d :: dx, d' :: dy => by
    have e : min (d :: dx).length (d' :: dy).length = min dx.length dy.length + 1 := by simp only [List.length_cons]; omega
    rw [e, List.take_succ_cons, List.take_succ_cons, List.zip_cons_cons, List.zip_cons_cons, reps_zip_take (K := K) (mg := mg) (H := H) dx dy]
/-- list(zip(xs, ys)) -/
def bLstZip (ta tb : TrE) : TrE := fun ds h P => ta ds h fun d h1 => tb ds h1 fun d2 h2 => match d, d2 with
  | .ref p, .ref p2 => (match h2 p, h2 p2 with
    | some (.lst xs), some (.lst ys) => xs.length ≤ 100000 ∧ ∀ q, h2 q = none → P (.ref q) (put h2 q (.lst ((xs.zip ys).map fun p => .tup [p.1, p.2])))
    | _, _ => False)
  | _, _ => False
theorem t_listZip (hc : X.calm = true) (hm : X.mg "list" = none) (hm2 : X.mg "zip" = none) (ha : TPE X e ta) (hb : TPE X e2 tb) (hg : Gl X "list" := by rfl) (hg2 : Gl X "zip" := by rfl)
    (hs : starEach [e, e2] X.env = (false, eval e X.env) :: starEach [e2] X.env := by rfl) (hs2 : starEach [e2] X.env = (false, eval e2 X.env) :: starEach [] X.env := by rfl) (hpl : (backTo q2 (starEach [e2] X.env)).any (·.1) = false := by rfl)
    (hs3 : starEach [.Call (.Name "zip" p2) [e, e2] [] q2] X.env = (false, eval (.Call (.Name "zip" p2) [e, e2] [] q2) X.env) :: starEach [] X.env := by rfl) :
    TPE X (.Call (.Name "list" p) [.Call (.Name "zip" p2) [e, e2] [] q2] [] pos) (bLstZip ta tb) := by
  refine ⟨fun pins s σ H Q I hq => ?_⟩
  refine Call_ (ld_blt I hg hm boot_list (PyProof.Rows.callWith_type1 (args_cons ?_ hs3) hs3 rfl))
  refine Call_ (ld_blt I hg2 hm2 boot_zip (PyProof.Rows.callWith_type1 (thn ((pa_cons ha (pa_cons hb pa_nil hs2) hs).run q2 pins s σ H (fun vs H2 => ∃ p p2, ∃ xs ys : List D, ∃ h2, vs = [.ref p, .ref p2] ∧ HR X.K X.mg h2 H2 ∧ h2 p = some (.lst xs) ∧ h2 p2 = some (.lst ys) ∧ xs.length ≤ 100000 ∧
    ∃ P, (∀ q, h2 q = none → P (.ref q) (put h2 q (.lst ((xs.zip ys).map fun p => .tup [p.1, p.2])))) ∧ Lift X.K X.mg H2 P Q) I ?_) fun us s1 ⟨vs, H1, I1, r1, q1⟩ => ?_) hs hpl))
  · obtain ⟨ds, h, P, sr, hr, t, l⟩ := hq
    refine ⟨ds, h, _, sr, hr, t, fun d h1 v H1 p1 hr1 k1 r1 => ⟨ds, h1, _, sr.tk k1, hr1, p1, fun d2 h2 v2 H2 p2 hr2 k2 r2 => ?_⟩⟩
    split at p2
    · rename_i a b
      split at p2
      · rename_i xs ys e1 e2
        cases (show v = _ from r1); cases (show v2 = _ from r2)
        exact ⟨a, b, xs, ys, h2, rfl, hr2, e1, e2, p2.1, P, p2.2, (l.tk k1).tk k2⟩
      · exact p2.elim
    · exact p2.elim
  · obtain ⟨a, b, xs, ys, h2, rfl, hr2, e1, e2, hlen, P, hP, l⟩ := q1
    obtain ⟨vx, sx, rx⟩ := lstAt hr2 e1
    obtain ⟨vy, sy, ry⟩ := lstAt hr2 e2
    obtain ⟨ix, wx, px, zx⟩ := I1.list (SqL.of sx)
    obtain ⟨iy, wy, py, zy⟩ := I1.list (SqL.of sy)
    cases r1 with
    | cons ra rr =>
      cases rr with
      | cons rb rr =>
        cases rr; cases ra; cases rb
        refine call_zip_2 px.isList py.isList fun h' hz hTI hTO h1 h2' hsz hk => ?_
        refine PyProof.Rows.args_nil ?_
        have hhd := I1.ok.hd hc
        have la : a < s1.heap.objs.size := px.lt
        have lb : b < s1.heap.objs.size := py.lt
        refine call_list_zip (s := { s1 with heap := h' }) hhd (PySem.W.ktu_apart s1.heap.objs.size a b la lb) (by rw [List.size_toArray, ← wx.length, ← rx.length]; exact lin hlen) hz hTI hTO h1 h2' (px.isList.at fun o e => hk _ _ e) (py.isList.at fun o e => hk _ _ e) fun h3 acc c gS gP gN gk => ?_
        have old : ∀ b o, s1.heap.get? b = some o → h3.get? b = some o := fun b o e => by
          have hlt := Heap.lt_size e
          exact gk b o (Nat.ne_of_lt (Nat.lt_add_right _ hlt)) (Nat.ne_of_lt (Nat.lt_add_right _ hlt)) (Nat.ne_of_lt hlt) (Nat.ne_of_lt (Nat.lt_add_right _ hlt)) (hk b o e)
        have I3 : Inv X pins σ H1 { s1 with heap := h3 } := I1.kept (t' := s1.toks) old
        have ez : min ix.toArray.size iy.toArray.size = min xs.length ys.length := by rw [List.size_toArray, List.size_toArray, ← wx.length, ← wy.length, ← rx.length, ← ry.length]
        rw [ez] at gP
        obtain ⟨H3, ts, J, k, hrk, hn2, rv, rr⟩ := pairs_track I1 (s3 := { s1 with heap := h3 }) gP gN.1 (fun T m => ⟨by have := (gN.2 T m).1; rw [hsz] at this; omega, I1.hok.fresh (by have := (gN.2 T m).1; rw [hsz] at this; omega)⟩)
          (show Vals (vx.take (min xs.length ys.length)) _ from wx.take _) (show Vals (vy.take (min xs.length ys.length)) _ from wy.take _) (rx.take _) (ry.take _) I3
        rw [reps_zip_take (K := X.K) (mg := X.mg) (H := H1)] at rr
        have hn : H3 h'.objs.size = none := hn2 _ (I1.hok.fresh (by rw [hsz]; omega)) fun m => (gN.2 _ m).2 rfl
        have hlen3 : ts.length ≤ sizeLine := by rw [← rr.length, List.length_map, List.length_zip]; have := lin hlen; omega
        have J2 : Inv X pins σ (upd H3 h'.objs.size (.lst ts)) { s1 with heap := h3 } := J.take (h' := h3) (t' := s1.toks) (fun _ _ _ e => e) (I1.fpOk (by rw [hsz]; omega) hn) ⟨hlen3, acc.toList, c, rv, gS⟩
        refine ⟨.ref _, _, J2, rfl, ?_⟩
        exact (l.tk k).alloc (hrk _ hr2) hn (hP _ ((hrk _ hr2).none hn)) (newLst hn rr)
end
end T
set_option Elab.async false
set_option linter.all false
set_option maxRecDepth 100000
set_option maxHeartbeats 1000000
namespace T
open PySem L2 PyProof.Rows
/-! ### repr; the stack without repr's marks -/
def reprD : RAT := fun xs h P => match xs with
  | [d] => ∃ p, pyOf h d = some p ∧ (match p with | .list _ => True | .tuple _ => True | _ => False) ∧ p.showable = true ∧ p.hasDict = false ∧ p.depth ≤ 60 ∧ p.shown.length ≤ 100000 ∧ P (.str p.shown) h
  | _ => False
section
variable {X : Cx}
theorem b_repr (hg : X.A.guards = some []) (hu : X.A.units + 64 < cLine) : CallR X (.builtin "repr") (lR X.K X.mg reprD) := by
  rintro pins s σ H xs us Q I r ⟨ds, h, P, rr, hr, t, l⟩
  unfold reprD at t
  split at t
  · rename_i d
    obtain ⟨p, e, sh, hs, hd, dp, sz, t⟩ := t
    obtain ⟨v, rfl, ra⟩ := reps1 rr
    obtain ⟨u, rfl, ru⟩ := vals1 r
    have D := dp_at hr ra e
    have key : ∀ a, u = .ref a → wpAny (model X.prog X.w) X.A (call (.builtin "repr") [u]) (EP X pins σ Q) X.xe s := fun a ea => by
      subst ea
      obtain ⟨as, rd⟩ := Dp.reads I p v _ D ru
      refine repr_of_reads' rd hs (PyData.noDict_hsm hd) hg (by omega) (fun _ _ z => z) (fun h' u tk hk => ?_) (lin sz)
      exact ⟨.str p.shown, H, I.kept (t' := tk) hk, ⟨u, rfl⟩, l.here t hr rfl⟩
    cases p with
    | list ps => cases D with | lst s1 _ => cases ru; exact key _ rfl
    | tuple ps => cases D with | tup s1 _ => cases ru; exact key _ rfl
    | _ => exact sh.elim
  · exact t.elim
end
/-- as FnOk, on a stack where no repr is under way -/
structure FnG (P : Program) (w : World) (K : PySem.W.Frag) (mg : Str → Option Value) (base : Heap) (k : Nat) (f : Addr) (fd : FuncData) (ps : List Str) (sp : Sp) : Prop where
  len : ∀ vs H Q E, sp vs H Q E → vs.length = ps.length
  run : ∀ (A : Around) (outer : List Env) (s : Shared) (H : Hp) (args : Args) (us : List Value) (vs : List V) (Q : VK) (E : XK), Room k A → A.guards = some [] → Env0 P w K mg base A outer s H → BindsTo s fd args (ps.zip us) → Vals vs us → sp vs H Q E →
    codeAny (model P w) A (.call (.ref f) args) (CR CX0 outer P w H s Q E) s
section
variable {P : Program} {w : World} {K : PySem.W.Frag} {mg : Str → Option Value} {base : Heap} {k : Nat} {f : Addr} {fd : FuncData} {ps : List Str} {sp : Sp}
theorem FnG.of (F : FnOk P w K mg base CX0 k f fd ps sp) : FnG P w K mg base k f fd ps sp := ⟨F.len, fun A o s H ar us vs Q E hr _ => F.run A o s H ar us vs Q E hr⟩
theorem FnG.mono {j : Nat} (F : FnG P w K mg base j f fd ps sp) (h : j ≤ k) : FnG P w K mg base k f fd ps sp := ⟨F.len, fun A o s H ar us vs Q E hr => F.run A o s H ar us vs Q E (hr.mono h)⟩
/-- what its runs leave, at one stack -/
theorem fnG_of {x qual : Str} {params : Arguments} {body : List Stmt} {scope : Scope} {dvs : List V} {kws : List (Str × V)} {N : List Str} (F : FunD K x qual params body scope dvs kws f fd) (S : FnScope N ps scope) (len : ∀ vs H Q E, sp vs H Q E → vs.length = ps.length)
    (hbody : ∀ (cdv : Value) (A : Around) (outer : List Env) (s : Shared) (H : Hp) (vs : List V) (Q : VK) (E : XK), Room k (A.deeper (envOfC qual scope s.heap.objs.size f cdv)) → A.guards = some [] → sp vs H Q E →
      ∃ t, PSs (cxOf CX0 P w K mg base N qual scope f cdv A outer s H E) body t ∧ t { nx := fun _ H' => Q .non H', rt := Q } (L2.start N vs) H) : FnG P w K mg base (k + 1) f fd ps sp := by
  obtain ⟨oc, od, dV, kV, doc, pm, an, cdv, ct, osl, rfl, lk, hcd, _, _⟩ := F.ex
  refine ⟨len, fun A outer s H args us vs Q E hr hg e0 hb r hsp => ?_⟩
  have KX : K.In s.heap := e0.mod.kin.keeps fun b o e => (e0.bs b o e).1
  have hkind : ∀ y ∈ ps.zip us, scope.names.lookup y.1 = some .local ∨ (scope.names.lookup y.1 = some .cell ∧ ((cellsFrom (s.heap.objs.size + 1) scope.names []).lookup y.1).isSome = true) := fun y hy =>
    (S.par y.1 (List.of_mem_zip (b := y.2) hy).1).imp id fun q => ⟨q, PySem.W.cellsFrom_some _ _ _ (.inl q)⟩
  refine codeAny_call_function hr.depth (KX _ _ lk) rfl S.co S.gen rfl (PySem.W.codeRec_of KX hcd) (hb _ _ _ _ (wpAny_newFunctionEnv_cells S.kind hkind fun env he s1 x => ?_))
  subst he
  obtain ⟨t, ht, hq⟩ := hbody cdv A outer s H vs Q E (hr.deeper _) hg hsp
  refine ⟨(e0.mod.nolimit.keeps fun b o e => (e0.bs b o e).1).keeps x.toInCall.keep, codeAny_func (wpAny_mono (ht.run [] s1 (L2.start N vs) H _ (inv_start S hr.hd e0 (len _ _ _ _ hsp) r x) hq) (fun fl s' hs => ?_) fun e s' hs => hs)⟩
  cases fl with
  | ret u => obtain ⟨v, σ', H', J, rv, q⟩ := hs; exact ⟨v, H', J.os, J.bare, J.base, J.hok, rv, q⟩
  | next => obtain ⟨σ', H', J, q⟩ := hs; exact ⟨.non, H', J.os, J.bare, J.base, J.hok, rfl, q⟩
  | brk => obtain ⟨_, _, _, q⟩ := hs; exact q.elim
  | cont => obtain ⟨_, _, _, q⟩ := hs; exact q.elim
/-- THE RULE for a def on such a stack -/
theorem okTG {x qual : Str} {params : Arguments} {body : List Stmt} {scope : Scope} {dvs : List V} {kws : List (Str × V)} {N : List Str} {c : Con} {tt : TrS} (F : FunD K x qual params body scope dvs kws f fd) (S : FnScope N ps scope) (len : ∀ ds h Q, c ds h Q → ds.length = ps.length)
    (hbody : ∀ (cdv : Value) (A : Around) (outer : List Env) (s : Shared) (H : Hp) (E : XK), Room k (A.deeper (envOfC qual scope s.heap.objs.size f cdv)) → A.guards = some [] → TPSs (cxOf CX0 P w K mg base N qual scope f cdv A outer s H E).nox body tt)
    (hc : ∀ ds h Q, c ds h Q → tt { nx := fun _ h' => less Q .non h', rt := less Q } (startT N.length ds) h) : FnG P w K mg base (k + 1) f fd ps (toSp K mg c) := by
  refine fnG_of F S (fun vs H Q E ⟨ds, h, Pq, r, hr, cc, l⟩ => by rw [← r.length]; exact len _ _ _ cc) (fun cdv A outer s H vs Q E hr hg h => ?_)
  obtain ⟨ds, h, Pq, r, hh, cc, l⟩ := h
  refine ⟨_, (hbody cdv A outer s H E hr hg).nox, ?_⟩
  have go : ∀ (d : D) (h1 : TH) (v : V) (H1 : Hp), less Pq d h1 → HR K mg h1 H1 → TK K H H1 → Rep K mg H1 d v → Q v H1 := fun d h1 v H1 ⟨h2, s2, p2⟩ a b e => l d h2 v H1 p2 (a.sub s2) b e
  refine ⟨startT N.length ds, h, { nx := fun _ h' => less Pq .non h', rt := less Pq }, sr_start r, hh, hc _ _ _ cc, fun ds' h' σ' H' p' _ a b => ?_, go, fun _ _ _ _ z => z.elim, fun _ _ _ _ z => z.elim⟩
  exact go _ _ _ _ p' a b rfl
end
/-- a def of the module, called on such a stack -/
def CalG (P : Program) (w : World) (K : PySem.W.Frag) (mg : Str → Option Value) (base : Heap) (k : Nat) (x : Str) (dvs : List D) (c : Con) : Prop :=
  ∃ f fd ps ds vs, FnG P w K mg base k f fd ps (toSp K mg c) ∧ mg x = some (.ref f) ∧ PySem.W.keepIn K (.ref f) = true ∧ Binds K fd ps ds ∧ Vals vs ds ∧ ∀ H, Reps K mg H dvs vs
section
variable {X : Cx} {a b e : Expr} {es : List Expr} {tr : TrA} {pos p : Pos} {k : Nat} {x : Str} {c : Con} {dvs : List D}
theorem CalG.of {P : Program} {w : World} {K : PySem.W.Frag} {mg : Str → Option Value} {base : Heap} (F : Cal P w K mg base k x dvs c) : CalG P w K mg base k x dvs c := by
  obtain ⟨f, fd, ps, ds, vs, G, r⟩ := F
  exact ⟨f, fd, ps, ds, vs, FnG.of G, r⟩
theorem CalG.mono {P : Program} {w : World} {K : PySem.W.Frag} {mg : Str → Option Value} {base : Heap} {j : Nat} (F : CalG P w K mg base j x dvs c) (h : j ≤ k) : CalG P w K mg base k x dvs c := by
  obtain ⟨f, fd, ps, ds, vs, G, r⟩ := F
  exact ⟨f, fd, ps, ds, vs, G.mono h, r⟩
theorem calG_of {P : Program} {w : World} {K : PySem.W.Frag} {mg : Str → Option Value} {base : Heap} {qual : Str} {params : Arguments} {body : List Stmt} {scope : Scope} {f : Addr} {fd : FuncData} {ps : List Str} (F : FunD K x qual params body scope [] [] f fd) (hm : mg x = some (.ref f)) (G : FnG P w K mg base k f fd ps (toSp K mg c))
    (h : ∀ (kV doc pm : Value) (an : Option Addr) (cdv ct : Value) (us : List Value), us.length = ps.length → bindArgs (PySem.W.fnOf x qual params body scope .none kV doc pm an cdv ct) ⟨us, []⟩ = pure (ps.zip us)) : CalG P w K mg base k x [] c :=
  ⟨f, fd, ps, [], [], G, hm, F.kp, F.bindsN h, .nil, fun _ => rfl⟩
theorem run_fnG {fd : FuncData} {f : Addr} {ps : List Str} {ds : List Value} {dl : List V} {sp : Sp} {pins : List (Addr × Obj)} {σ : L2.St} {H : Hp} {s : Shared} {Q : VK} {us : List Value} {vs : List V} (F : FnG X.prog X.w X.K X.mg X.base k f fd ps sp) (hr : Room k X.A) (hG : X.A.guards = some [])
    (hb : Binds X.K fd ps ds) (hd : Vals dl ds) (I : Inv X pins σ H s) (r : Vals vs us) (h : sp (vs ++ dl) H Q E0) : wpAny (model X.prog X.w) X.A (call (.ref f) us) (EP X pins σ Q) X.xe s := by
  have r2 : Vals (vs ++ dl) (us ++ ds) := r.append hd
  refine wpAny_call (codeAny_mono (F.run X.A X.stack s H ⟨us, []⟩ (us ++ ds) (vs ++ dl) Q E0 hr hG I.env0 (hb s us I.kIn (by rw [← r2.length]; exact F.len _ _ _ _ h)) r2 h) fun r s' hq => ?_)
  match r, hq with
  | .error e, hq => exact pass0 pins σ H s e s' I hq
  | .ok (.ret u), hq => exact I.after hq
  | .ok .next, hq => exact hq.elim
  | .ok .brk, hq => exact hq.elim
  | .ok .cont, hq => exact hq.elim
theorem t_callG (F : CalG X.prog X.w X.K X.mg X.base k x dvs c) (hr : Room k X.A) (hG : X.A.guards = some []) (ha : TPA X (e :: es) tr) (hg : Gl X x := by rfl)
    (hdb : (x == ("__debug__" : Str)) = false := by decide) (he : starEach (e :: es) X.env = (false, eval e X.env) :: starEach es X.env := by rfl) (hpl : (backTo pos (starEach es X.env)).any (·.1) = false := by rfl) :
    TPE X (.Call (.Name x p) (e :: es) [] pos) (bCall c dvs tr) := by
  obtain ⟨f, fd, ps, dl, vl, G, hm, hk, hb, hd, rd⟩ := F
  refine PE_weak (t := fun σ H Q => lA X.K X.mg tr σ H fun vs H1 => toSp X.K X.mg c (vs ++ vl) H1 Q E0) ⟨fun pins s σ H Q I h => ?_⟩ ?_
  · refine wpAny_Call_Name_kw (ld_glob I hg hm ?_ hdb)
    exact PySem.W.callWith_K (h₀ := X.base) I.ok.mod.kin hk (thn (ha.run pos pins s σ H _ I h) fun us s1 ⟨vs, H1, I1, r, q⟩ => ⟨I1.kIn, run_fnG G hr hG hb hd I1 r q⟩) he hpl
  · rintro σ H Q ⟨ds, h, P, sr, hr, t, l⟩
    exact ⟨ds, h, _, sr, hr, t, fun xs h1 us H1 p1 hr1 k1 r1 => ⟨xs ++ dvs, h1, P, r1.append (rd H1), hr1, p1, l.tk k1⟩⟩
theorem t_call0G (F : CalG X.prog X.w X.K X.mg X.base k x dvs c) (hr : Room k X.A) (hG : X.A.guards = some []) (hg : Gl X x := by rfl) (hdb : (x == ("__debug__" : Str)) = false := by decide) :
    TPE X (.Call (.Name x p) [] [] pos) (bCall c dvs bNil) := by
  obtain ⟨f, fd, ps, dl, vl, G, hm, hk, hb, hd, rd⟩ := F
  refine PE_weak (t := fun σ H Q => toSp X.K X.mg c vl H Q E0) ⟨fun pins s σ H Q I h => ?_⟩ ?_
  · refine wpAny_Call_Name_kw (ld_glob I hg hm ?_ hdb)
    exact PySem.W.callWith_K0 I.kIn hk (run_fnG (us := []) G hr hG hb hd I .nil h)
  · rintro σ H Q ⟨ds, h, P, sr, hr, t, l⟩
    exact ⟨dvs, h, P, rd H, hr, t, l⟩
end
end T
set_option Elab.async false
set_option linter.all false
set_option maxRecDepth 100000
set_option maxHeartbeats 1000000
namespace T
open PySem L2 PyProof.Rows
/-! ### calls by name alone: f(k = v, ..) -/
/-- the parameters' values among the keywords' -/
def pick {α : Type} (p : List Nat) (xs : List α) : List α := p.filterMap fun i => xs[i]?
theorem Reps.pick {K : PySem.W.Frag} {mg : Str → Option Value} {H : Hp} {ds : List D} {vs : List V} (r : Reps K mg H ds vs) : ∀ p : List Nat, Reps K mg H (pick p ds) (pick p vs)
  | [] => rfl
  | i :: p => by
    have ih := Reps.pick r p
    unfold T.pick at ih ⊢
    rw [List.filterMap_cons, List.filterMap_cons]
    cases e : ds[i]? with
    | some d =>
      obtain ⟨v, e1, e2⟩ := r.get e
      rw [e1]
      exact .cons e2 ih
    | none =>
      have : vs[i]? = none := by rw [List.getElem?_eq_none_iff] at e ⊢; rw [← r.length]; exact e
      rw [this]; exact ih
theorem Vals.pick {vs : List V} {us : List Value} (r : Vals vs us) : ∀ p : List Nat, Vals (T.pick p vs) (T.pick p us)
  | [] => .nil
  | i :: p => by
    have ih := Vals.pick r p
    unfold T.pick at ih ⊢
    rw [List.filterMap_cons, List.filterMap_cons]
    cases e : vs[i]? with
    | some v =>
      obtain ⟨u, e1, e2⟩ := r.get e
      rw [e1]
      exact .cons e2 ih
    | none =>
      have : us[i]? = none := by rw [List.getElem?_eq_none_iff] at e ⊢; rw [← r.length]; exact e
      rw [this]; exact ih
/-- a def that is called with the keywords ks alone -/
def KwC (P : Program) (w : World) (K : PySem.W.Frag) (mg : Str → Option Value) (base : Heap) (k : Nat) (x : Str) (ks : List Str) (p : List Nat) (c : Con) : Prop :=
  ∃ f fd ps, FnOk P w K mg base CX0 k f fd ps (toSp K mg c) ∧ mg x = some (.ref f) ∧ PySem.W.keepIn K (.ref f) = true ∧
    ∀ (s : Shared) (ws : List Value), K.In s.heap → ws.length = ks.length → BindsTo s fd ⟨[], ks.zip ws⟩ (ps.zip (pick p ws))
theorem KwC.of {P : Program} {w : World} {K : PySem.W.Frag} {mg : Str → Option Value} {base : Heap} {k : Nat} {x qual : Str} {params : Arguments} {body : List Stmt} {scope : Scope} {f : Addr} {fd : FuncData} {ps ks : List Str} {p : List Nat} {c : Con}
    (F : FunD K x qual params body scope [] [] f fd) (hm : mg x = some (.ref f)) (G : FnOk P w K mg base CX0 k f fd ps (toSp K mg c))
    (h : ∀ (kV doc pm : Value) (an : Option Addr) (cdv ct : Value) (ws : List Value), ws.length = ks.length → bindArgs (PySem.W.fnOf x qual params body scope .none kV doc pm an cdv ct) ⟨[], ks.zip ws⟩ = pure (ps.zip (pick p ws))) : KwC P w K mg base k x ks p c := by
  refine ⟨f, fd, ps, G, hm, F.kp, fun s ws _ hl => ?_⟩
  obtain ⟨oc, od, dV, kV, doc, pm, an, cdv, ct, osl, rfl, lk, hcd, hD, hK⟩ := F.ex
  rcases hD with ⟨_, rfl⟩ | ⟨e, _⟩
  · exact .of_eq (h kV doc pm an cdv ct ws hl)
  · exact absurd rfl e
theorem KwC.mono {P : Program} {w : World} {K : PySem.W.Frag} {mg : Str → Option Value} {base : Heap} {j k : Nat} {x : Str} {ks : List Str} {p : List Nat} {c : Con} (F : KwC P w K mg base j x ks p c) (h : j ≤ k) : KwC P w K mg base k x ks p c := by
  obtain ⟨f, fd, ps, G, r⟩ := F
  exact ⟨f, fd, ps, G.mono h, r⟩
section
variable {X : Cx} {e : Expr} {kws : List Keyword} {ta : TrE} {tr : TrA} {pos p : Pos} {k : Nat} {x : Str} {c : Con} {ks : List Str} {pm : List Nat}
abbrev TPK (X : Cx) (kws : List Keyword) (tr : TrA) : Prop := PK X kws (lA X.K X.mg tr)
theorem PK_weak {t t' : TA} (h : PK X kws t) (w : ∀ σ H Q, t' σ H Q → t σ H Q) : PK X kws t' := ⟨fun pos pins s σ H Q I q => h.run pos pins s σ H Q I (w σ H Q q)⟩
theorem kw_nil : TPK X [] bNil := by
  refine PK_weak pk_nil ?_
  rintro σ H Q ⟨ds, h, P, sr, hr, t, l⟩
  exact l _ _ _ _ t hr (TK.refl H) rfl
theorem kw_cons {nm : Option Str} {kpos : Pos} (ha : TPE X e ta) (hr : TPK X kws tr) : TPK X (⟨nm, e, kpos⟩ :: kws) (bCons ta tr) := by
  refine PK_weak (pk_cons ha hr) ?_
  rintro σ H Q ⟨ds, h, P, sr, hr, t, l⟩
  refine ⟨ds, h, _, sr, hr, t, fun x h1 v H1 p1 hr1 k1 r1 => ⟨ds, h1, _, sr.tk k1, hr1, p1, fun xs h2 vs H2 p2 hr2 k2 r2 => ?_⟩⟩
  exact l _ _ _ _ p2 hr2 (k1.trans k2) (.cons (r1.tk k2) r2)
def bCallK (c : Con) (pm : List Nat) (tr : TrA) : TrE := fun ds h P => tr ds h fun xs h1 => xs.length = pm.length ∧ c (pick pm xs) h1 P
theorem t_callK (F : KwC X.prog X.w X.K X.mg X.base k x ks pm c) (hr : Room k X.A) (hkw : TPK X kws tr) (hg : Gl X x := by rfl) (hdb : (x == ("__debug__" : Str)) = false := by decide) (hlen : pm.length = ks.length := by rfl)
    (hall : (backToKw pos (keywordEach kws X.env)).all (·.1.isSome) = true := by rfl) (hks : (backToKw pos (keywordEach kws X.env)).filterMap (·.1) = ks := by rfl)
    (hpl : ((backTo pos (starEach [] X.env)).any (·.1) || (backToKw pos (keywordEach kws X.env)).any (·.1.isNone)) = false := by rfl) :
    TPE X (.Call (.Name x p) [] kws pos) (bCallK c pm tr) := by
  obtain ⟨f, fd, ps, G, hm, hk, hb⟩ := F
  refine PE_weak (t := fun σ H Q => lA X.K X.mg tr σ H fun zs H1 => zs.length = ks.length ∧ toSp X.K X.mg c (pick pm zs) H1 Q E0) ⟨fun pins s σ H Q I h => ?_⟩ ?_
  · refine wpAny_Call_Name_kw (ld_glob I hg hm ?_ hdb)
    refine PySem.W.callWith_KW0 (h₀ := X.base) I.ok.mod.kin hk hall (thn (hkw.run pos pins s σ H _ I h) fun ws s1 ⟨zs, H1, I1, rz, hl, q⟩ => ⟨I1.kIn, ?_⟩) hpl
    rw [hks]
    refine wpAny_call (codeAny_mono (G.run X.A X.stack s1 H1 ⟨[], ks.zip ws⟩ (pick pm ws) (pick pm zs) Q E0 hr I1.env0 (hb s1 ws I1.kIn (rz.length.symm.trans hl)) (Vals.pick rz pm) q) fun r s' hq => ?_)
    match r, hq with
    | .error e, hq => exact pass0 pins σ H1 s1 e s' I1 hq
    | .ok (.ret u), hq => exact I1.after hq
    | .ok .next, hq => exact hq.elim
    | .ok .brk, hq => exact hq.elim
    | .ok .cont, hq => exact hq.elim
  · rintro σ H Q ⟨ds, h, P, sr, hr, t, l⟩
    refine ⟨ds, h, _, sr, hr, t, fun xs h1 us H1 p1 hr1 k1 r1 => ⟨by rw [← r1.length, p1.1, hlen], pick pm xs, h1, P, r1.pick pm, hr1, p1.2, l.tk k1⟩⟩
end
end T
set_option Elab.async false
set_option linter.all false
set_option maxRecDepth 100000
set_option maxHeartbeats 1000000
namespace T
open PySem L2 PyProof.Rows PySem.Spec
/-! ### the end: the law's own call, where its def asks for a stack without marks -/
section
variable {P : Program} {w : World} {K : PySem.W.Frag} {mg mb : Str → Option Value} {k : Nat} {fa a : Addr} {fd : FuncData} {x : Str} {sp : Sp} {s₁ : Shared} {vs : List Value} {ns : List Int}
/-- the run, the script known as H says (nothing else is) -/
theorem runG (KX : K.In s₁.heap) (hns : s₁.heap.Ns mainGlobals mg) (hb : s₁.heap.Ns builtinsNs mb) (hbb : ∀ x : Str, x ≠ "__name__" → mb x = bootBuiltins x) (hlim : s₁.heap.NoLimit) (hg : s₁.gens = #[]) (hr : Room k callerA)
    (ha : s₁.heap.get? a = some { cls := .type "list", data := .seq vs.toArray })
    (F : ∀ base : Heap, K.In base → base.Ns mainGlobals mg → FnG P w K mg base k fa fd [x] sp) (hbind : ∀ (s : Shared) (u : Value), BindsTo s fd ⟨[u], []⟩ [(x, u)])
    {H : Hp} (hO : Only H) (hsp : sp [.ref a] H (fun v _ => v = .bl true) fun _ _ _ => False) (hok : HOk P w H s₁.heap) (hA : ∀ b, H b ≠ none → b = a) (hK : H a ≠ none → K.lookup a = none) :
    codeAny (model P w) callerA (.call (.ref fa) ⟨[.ref a], []⟩) (fun r s' => r = .ok (.ret (.bool true)) ∧ OldK s₁.heap s'.heap ∧ s'.os = s₁.os ∧ AllBare s'.gens) s₁ := by
  have at_a : ∀ {b : Addr}, (∃ u, H b = some u) → b = a := fun {b} ⟨u, q⟩ => hA b (by rw [q]; simp)
  have noA : ∀ {b : Addr} {o : Obj} {es : Array DictEntry} {ep : Nat}, s₁.heap.get? b = some o → o.data = .dict es ep → H b = none := fun {b o es ep} e d => by
    refine Classical.byContradiction fun q => ?_
    obtain ⟨u, q⟩ := Option.ne_none_iff_exists'.mp q
    cases at_a ⟨u, q⟩
    rw [ha] at e; cases e; exact nomatch d
  have nsK : ∀ {b : Addr} {m : Str → Option Value}, s₁.heap.Ns b m → (hidT s₁.heap H).Ns b m := fun ⟨o, es, ep, e, d, r⟩ => ⟨o, es, ep, hidT_get e (noA e d), d, r⟩
  have inK : K.In (hidT s₁.heap H) := fun b o e => hidT_get (KX b o e) (by
    refine Classical.byContradiction fun q => ?_
    obtain ⟨u, q⟩ := Option.ne_none_iff_exists'.mp q
    cases at_a ⟨u, q⟩
    rw [hK (by rw [q]; simp)] at e; cases e)
  obtain ⟨mc, l1, l2⟩ := hlim
  have e0 : Env0 P w K mg (hidT s₁.heap H) callerA [] s₁ H := ⟨rfl, ⟨inK, nsK hns, ⟨mb, nsK hb, hbb⟩, ⟨mc, nsK l1, l2⟩⟩, fun b o e => of_hidT e, Nat.le_of_eq (hidT_size _ _), trivial, fun b hb => (nomatch (show b ∈ ([] : List Addr) from hb)), hok, .of_eq hg⟩
  refine codeAny_mono ((F _ inK (nsK hns)).run callerA [] s₁ H ⟨[.ref a], []⟩ [.ref a] [.ref a] _ _ hr rfl e0 (hbind s₁ (.ref a)) (.cons rfl .nil) hsp) fun r s' h => ?_
  match r, h with
  | .error e, h => exact h.elim
  | .ok .next, h => exact h.elim
  | .ok .brk, h => exact h.elim
  | .ok .cont, h => exact h.elim
  | .ok (.ret u), ⟨v, H', os, bare, un, hok', r', q⟩ =>
    cases (show v = .bl true from q)
    cases (show u = Value.bool true from r')
    refine ⟨rfl, OldK.of_keep fun b o e => ?_, os, bare⟩
    rcases hO b with z | ⟨ob, xs, z⟩
    · exact un.keep b o e z (fun z => absurd (show b ∈ ([] : List Addr) from z) (by simp)) (by simp)
    · obtain ⟨e1, _⟩ := hok b _ z
      rw [e] at e1; cases e1
      exact (hok' b _ (un.frzs b _ _ z)).1
theorem callG (KX : K.In s₁.heap) (hns : s₁.heap.Ns mainGlobals mg) (hb : s₁.heap.Ns builtinsNs mb) (hbb : ∀ x : Str, x ≠ "__name__" → mb x = bootBuiltins x) (hlim : s₁.heap.NoLimit) (hg : s₁.gens = #[])
    (ha : s₁.heap.get? a = some { cls := .type "list", data := .seq vs.toArray }) (hi : IntsAre vs ns) (hl : ns.length ≤ sizeLine) (hr : Room k callerA)
    (F : ∀ base : Heap, K.In base → base.Ns mainGlobals mg → FnG P w K mg base k fa fd [x] sp) (hbind : ∀ (s : Shared) (u : Value), BindsTo s fd ⟨[u], []⟩ [(x, u)])
    (hsp : ∀ H : Hp, Fz K H a (ns.map V.int) → sp [.ref a] H (fun v _ => v = .bl true) fun _ _ _ => False) :
    codeAny (model P w) callerA (.call (.ref fa) ⟨[.ref a], []⟩) (fun r s' => r = .ok (.ret (.bool true)) ∧ OldK s₁.heap s'.heap ∧ s'.os = s₁.os ∧ AllBare s'.gens) s₁ := by
  have rv := L2.vals_ints hi
  by_cases hk : K.lookup a = none
  · let H : Hp := fun b => if b = a then some (.frz { cls := .type "list", data := .seq vs.toArray } (.lst (ns.map V.int))) else none
    have ne : ∀ b, b ≠ a → H b = none := fun b n => if_neg n
    have eq : H a = some (.frz { cls := .type "list", data := .seq vs.toArray } (.lst (ns.map V.int))) := if_pos rfl
    refine runG KX hns hb hbb hlim hg hr ha F hbind (H := H) (fun b => ?_) (hsp H (.inl ⟨_, eq⟩)) (fun b u z => ?_) (fun b z => Classical.byContradiction fun n => z (ne b n)) fun _ => hk
    · by_cases e : b = a
      · exact .inr ⟨_, _, by rw [e]; exact eq⟩
      · exact .inl (ne b e)
    · by_cases e : b = a
      · subst e; rw [eq] at z; cases z
        exact ⟨ha, by rw [List.length_map]; exact hl, vs, _, rv, ha⟩
      · rw [ne b e] at z; cases z
  · obtain ⟨o, hk⟩ := Option.ne_none_iff_exists'.mp hk
    have e := KX a o hk
    rw [ha] at e; cases e
    exact runG KX hns hb hbb hlim hg hr ha F hbind (H := fun _ => none) (fun _ => .inl rfl) (hsp _ (.inr ⟨_, vs.toArray, _, hk, rfl, rfl, rfl, by rw [List.size_toArray, hi.length]; exact hl, by simpa using rv⟩)) (fun b u z => (nomatch z)) (fun b z => absurd rfl z) fun z => absurd rfl z
end
/-- the goal behind the head -/
theorem walk_G {l : PySem.W.OpenLaw} {n k : Nat} {q : Program} {loose : List Str} {XP : (Str → Option Value) → Heap → Prop} {YP : World → Heap → Prop} {d : DefRec} {x : Str} {c : Con}
    (hn : l.most = some n) (hn2 : n ≤ sizeLine) (hdf : d.params.defaults = []) (hr : Room k callerA)
    (hc : ∀ ns : List Int, ns.length ≤ n → c [.scr ns] (fun _ => none) fun v _ => v = .bl true)
    (F : ∀ (w : World) (mg : Str → Option Value) (fa : Addr) (h : Heap), YP w h → h.Ns mainGlobals mg → mg d.name = some (.ref fa) →
      ∃ (K : PySem.W.Frag) (fd : FuncData), K.In h ∧ (∀ (s : Shared) (u : Value), BindsTo s fd ⟨[u], []⟩ [(x, u)]) ∧ ∀ base : Heap, K.In base → base.Ns mainGlobals mg → FnG l.prog w K mg base k fa fd [x] (toSp K mg c)) :
    PySem.W.WalkO q loose XP YP l.row.toRowW d [] (fun f vs => PySem.call f vs) := by
  refine Att.attach_call hn hdf fun w s₀ s₁ mg mb fa o pm cd doc a vs ns G Y ho hd hcd hmg hobj hints hlen hg => ?_
  obtain ⟨K, fd, KX, hb, hF⟩ := F w mg fa _ Y G.T.g hmg
  refine callG KX G.T.g G.T.b G.T.builtins G.T.nolimit hg hobj hints (Nat.le_trans hlen hn2) hr hF hb fun H hz => ?_
  refine ⟨[.scr ns], fun _ => none, _, .cons ⟨a, rfl, hz⟩ .nil, fun a o e => (nomatch e), hc ns hlen, fun dd h v H' e _ _ r => ?_⟩
  cases (show dd = _ from e)
  exact r
/-! ### constants of the module -/
def ckStr (x z : Str) (K : PySem.W.Frag) : Bool := match PySem.W.nsIn K mainGlobals x with
  | some (some (.str v _)) => decide (v = z)
  | _ => false
def ckInt (x : Str) (z : Int) (K : PySem.W.Frag) : Bool := match PySem.W.nsIn K mainGlobals x with
  | some (some (.int v _)) => decide (v = z)
  | _ => false
theorem str_of {K : PySem.W.Frag} {h : Heap} {mg : Str → Option Value} (X : K.In h) (G : h.Ns mainGlobals mg) {x z : Str} (c : ckStr x z K = true) : ∃ t, mg x = some (.str z t) := by
  unfold ckStr at c
  split at c
  · rename_i v t e
    exact ⟨t, by rw [PySem.W.mg_of X G e, of_decide_eq_true c]⟩
  · cases c
theorem int_of {K : PySem.W.Frag} {h : Heap} {mg : Str → Option Value} (X : K.In h) (G : h.Ns mainGlobals mg) {x : Str} {z : Int} (c : ckInt x z K = true) : ∃ t, mg x = some (.int z t) := by
  unfold ckInt at c
  split at c
  · rename_i v t e
    exact ⟨t, by rw [PySem.W.mg_of X G e, of_decide_eq_true c]⟩
  · cases c
end T
set_option Elab.async false
set_option linter.all false
set_option maxRecDepth 100000
set_option maxHeartbeats 1000000
namespace T
open PySem L2 PyProof.Rows
/-! ### indices -/
theorem atI_nat {α : Type} (xs : List α) (n : Nat) (h : n < xs.length) : atI xs (n : Int) = xs[n]? := by
  unfold atI ixN
  rw [if_pos (by omega), if_pos (by omega)]
  rfl
@[simp] theorem atI_0 {α : Type} (a : α) (l : List α) : atI (a :: l) 0 = some a := atI_nat (a :: l) 0 (by simp)
@[simp] theorem atI_1 {α : Type} (a b : α) (l : List α) : atI (a :: b :: l) 1 = some b := atI_nat (a :: b :: l) 1 (by simp)
@[simp] theorem atI_2 {α : Type} (a b c : α) (l : List α) : atI (a :: b :: c :: l) 2 = some c := atI_nat (a :: b :: c :: l) 2 (by simp)
@[simp] theorem atI_3 {α : Type} (a b c d : α) (l : List α) : atI (a :: b :: c :: d :: l) 3 = some d := atI_nat (a :: b :: c :: d :: l) 3 (by simp)
theorem ixN_nat (len n : Nat) (h : n < len) : ixN len (n : Int) = some n := by
  unfold ixN
  rw [if_pos (by omega), if_pos (by omega)]; rfl
theorem atI_of {α : Type} {xs : List α} {i : Int} (h0 : 0 ≤ i) (h1 : i < xs.length) : ∃ a, xs[i.toNat]? = some a ∧ atI xs i = some a := by
  have hl : i.toNat < xs.length := by omega
  refine ⟨xs[i.toNat], by simp [hl], ?_⟩
  have := atI_nat xs i.toNat hl
  rw [show ((i.toNat : Nat) : Int) = i by omega] at this
  rw [this]; simp [hl]
theorem atI_mem {α : Type} {xs : List α} {i : Int} {a : α} (h : atI xs i = some a) : a ∈ xs := by
  unfold atI at h
  cases e : ixN xs.length i with
  | none => rw [e] at h; cases h
  | some j => rw [e] at h; exact List.mem_of_getElem? h
theorem fm_some {α β : Type} (f : α → β) : ∀ l : List α, l.filterMap (fun x => some (f x)) = l.map f
  | [] => rfl
  | x :: l => by rw [List.filterMap_cons, List.map_cons, fm_some f l]
/-! ### heaps -/
@[simp] theorem put_at {h : TH} {a : Addr} {o : O} : put h a o a = some o := put_same
theorem put_off {h : TH} {a b : Addr} {o u : O} (e : h b = some u) (n : h a = none) : put h a o b = some u := by
  rw [put_ne (fun z => by rw [z, n] at e; cases e)]; exact e
theorem put_none {h : TH} {a b : Addr} {o : O} (e : put h a o b = none) : h b = none ∧ b ≠ a := by
  by_cases z : b = a
  · rw [z, put_same] at e; cases e
  · rw [put_ne z] at e; exact ⟨e, z⟩
theorem put_comm {h : TH} {a b : Addr} {o u : O} (n : a ≠ b) : put (put h a o) b u = put (put h b u) a o := by
  funext c
  unfold put
  by_cases e1 : c = b
  · by_cases e2 : c = a
    · exact absurd (e2.symm.trans e1) n
    · simp [e1, e2]; intro q; exact absurd q.symm n
  · by_cases e2 : c = a
    · simp [e1, e2]; intro q; exact absurd q n
    · simp [e1, e2]
theorem put_same_id {h : TH} {a : Addr} {o : O} (e : h a = some o) : put h a o = h := by
  funext c
  unfold put
  by_cases z : c = a
  · rw [if_pos z, z, e]
  · rw [if_neg z]
theorem less_of {P : TQ} {d : D} {h : TH} (p : P d h) : less P d h := ⟨h, Sub.refl h, p⟩
theorem less_sub {P : TQ} {d : D} {h h' : TH} (s : Sub h h') (p : P d h) : less P d h' := ⟨h, s, p⟩
/-! ### loops: what holds ahead of the i-th turn -/
theorem loop_inv {g : TrG} {tb : TrS} {De : TEnds} {stay : TH → Prop} (items : List D) (I : Nat → TS0 → TH → Prop) {ds : TS0} {h : TH} (h0 : I 0 ds h) (st : ∀ i ds h, i ≤ items.length → I i ds h → stay h)
    (turn : ∀ (i : Nat) (x : D) (ds : TS0) (h : TH) (Kn : TS0 → TH → Prop), items[i]? = some x → I i ds h → (∀ ds' h', I (i + 1) ds' h' → Kn ds' h') → g x ds h fun ds1 h1 => tb { De with nx := Kn, ct := Kn, bk := De.nx } ds1 h1)
    (fin : ∀ ds h, I items.length ds h → De.nx ds h) : loopR g tb De stay items ds h := by
  have key : ∀ (k i : Nat) (ds : TS0) (h : TH), items.length - i = k → i ≤ items.length → I i ds h → loopR g tb De stay (items.drop i) ds h := by
    intro k
    induction k with
    | zero =>
      intro i ds h e hi q
      have e : i = items.length := by omega
      subst e
      rw [List.drop_length]
      exact ⟨st _ _ _ hi q, fin _ _ q⟩
    | succ k ih =>
      intro i ds h e hi q
      have hlt : i < items.length := by omega
      rw [List.drop_eq_getElem_cons hlt]
      exact ⟨st _ _ _ hi q, turn i _ ds h _ (by simp [hlt]) q fun ds' h' q' => ih (i + 1) ds' h' (by omega) hlt q'⟩
  have := key _ 0 ds h rfl (Nat.zero_le _) h0
  rwa [List.drop_zero] at this
/-- the same by the list that is left -/
theorem loop_cons {g : TrG} {tb : TrS} {De : TEnds} {stay : TH → Prop} {x : D} {r : List D} {ds : TS0} {h : TH} (st : stay h) (q : g x ds h fun ds1 h1 => tb { De with nx := loopR g tb De stay r, ct := loopR g tb De stay r, bk := De.nx } ds1 h1) : loopR g tb De stay (x :: r) ds h := ⟨st, q⟩
theorem loop_nil {g : TrG} {tb : TrS} {De : TEnds} {stay : TH → Prop} {ds : TS0} {h : TH} (st : stay h) (q : De.nx ds h) : loopR g tb De stay [] ds h := ⟨st, q⟩
/-! ### comprehensions -/
/-- one item: what it adds, if anything -/
def lcItem (g : TrG) (tt : TrT) (te : TrE) (dsw : TS0) (x : D) (h : TH) (P : Option D → TH → Prop) : Prop := g x dsw h fun ds2 h2 => tt ds2 h2 fun k h3 => if k = true then te ds2 h3 fun y h4 => P (some y) h4 else P none h3
def addO (acc : List D) : Option D → List D
  | some y => acc ++ [y]
  | none => acc
/-- comprehension whose items change nothing (the heaps may grow): F says what an item adds -/
theorem lc_pure {p : Addr} {stay : TH → Prop} {g : TrG} {tt : TrT} {te : TrE} {dsw : TS0} {P : TH → Prop} (h : TH) (F : D → Option D) : ∀ (items : List D) (acc : List D), h p = none → acc.length + items.length ≤ 100000 → (∀ acc, stay (put h p (.lst acc))) →
    (∀ x ∈ items, ∀ (acc : List D) (Kn : Option D → TH → Prop), (∀ h', Sub (put h p (.lst acc)) h' → Kn (F x) h') → lcItem g tt te dsw x (put h p (.lst acc)) Kn) →
    P (put h p (.lst (acc ++ items.filterMap F))) → lcR p stay g tt te dsw P items (put h p (.lst acc))
  | [], acc, hp, hl, hs, hx, q => ⟨hs acc, by simpa using q⟩
  | x :: r, acc, hp, hl, hs, hx, q => by
    refine ⟨hs acc, ?_⟩
    show lcItem g tt te dsw x (put h p (.lst acc)) fun o h4 => match o with
      | some y => ∃ h5, Sub h5 h4 ∧ ∃ acc, h5 p = some (.lst acc) ∧ acc.length < 100000 ∧ lcR p stay g tt te dsw P r (put h5 p (.lst (acc ++ [y])))
      | none => ∃ h5, Sub h5 h4 ∧ lcR p stay g tt te dsw P r h5
    refine hx x List.mem_cons_self acc _ fun h' sb => ?_
    have hl' : acc.length + r.length + 1 ≤ 100000 := by rw [List.length_cons] at hl; omega
    cases e : F x with
    | none =>
      refine ⟨put h p (.lst acc), sb, lc_pure h F r acc hp (by omega) hs (fun y hy => hx y (List.mem_cons_of_mem _ hy)) ?_⟩
      rw [List.filterMap_cons, e] at q; exact q
    | some y =>
      refine ⟨put h p (.lst acc), sb, acc, put_same, by omega, ?_⟩
      rw [put_put]
      refine lc_pure h F r (acc ++ [y]) hp (by simp; omega) hs (fun y hy => hx y (List.mem_cons_of_mem _ hy)) ?_
      rw [List.filterMap_cons, e] at q; rw [List.append_assoc]; exact q
/-- comprehension whose items may change the heap: J, what holds ahead of the i-th item -/
theorem lc_state {p : Addr} {stay : TH → Prop} {g : TrG} {tt : TrT} {te : TrE} {dsw : TS0} {P : TH → Prop} (items : List D) (J : Nat → List D → TH → Prop) {h : TH} (hl : items.length ≤ 100000) (h0 : J 0 [] h) (hs : ∀ i acc h, i ≤ items.length → J i acc h → stay h)
    (hx : ∀ (i : Nat) (x : D) (acc : List D) (h : TH) (Kn : Option D → TH → Prop), items[i]? = some x → J i acc h → (∀ y h4 h5, Sub h5 h4 → h5 p = some (.lst acc) → J (i + 1) (acc ++ [y]) (put h5 p (.lst (acc ++ [y]))) → Kn (some y) h4) → (∀ h4 h5, Sub h5 h4 → J (i + 1) acc h5 → Kn none h4) → lcItem g tt te dsw x h Kn)
    (q : ∀ acc h, J items.length acc h → P h) : lcR p stay g tt te dsw P items h := by
  have key : ∀ (k i : Nat) (acc : List D) (h : TH), items.length - i = k → i ≤ items.length → acc.length ≤ i → J i acc h → lcR p stay g tt te dsw P (items.drop i) h := by
    intro k
    induction k with
    | zero =>
      intro i acc h e hi _ j
      have e : i = items.length := by omega
      subst e
      rw [List.drop_length]
      exact ⟨hs _ _ _ hi j, q _ _ j⟩
    | succ k ih =>
      intro i acc h e hi ha j
      have hlt : i < items.length := by omega
      rw [List.drop_eq_getElem_cons hlt]
      refine ⟨hs _ _ _ hi j, ?_⟩
      show lcItem g tt te dsw _ h fun o h4 => match o with
        | some y => ∃ h5, Sub h5 h4 ∧ ∃ acc, h5 p = some (.lst acc) ∧ acc.length < 100000 ∧ lcR p stay g tt te dsw P (items.drop (i + 1)) (put h5 p (.lst (acc ++ [y])))
        | none => ∃ h5, Sub h5 h4 ∧ lcR p stay g tt te dsw P (items.drop (i + 1)) h5
      refine hx i _ acc h _ (by simp [hlt]) j (fun y h4 h5 sb e5 j2 => ?_) fun h4 h5 sb j2 => ?_
      · exact ⟨h5, sb, acc, e5, by omega, ih (i + 1) _ _ (by omega) hlt (by simp; omega) j2⟩
      · exact ⟨h5, sb, ih (i + 1) _ _ (by omega) hlt (by omega) j2⟩
  have := key _ 0 [] h rfl (Nat.zero_le _) (Nat.le_refl _) h0
  rwa [List.drop_zero] at this
end T
set_option Elab.async false
set_option linter.all false
set_option maxRecDepth 100000
set_option maxHeartbeats 1000000
namespace T
open PySem L2 PyProof.Rows
/-! ### rides by trees -/
abbrev Ride := Str × Int × Int
abbrev tR (r : Ride) : D := .tup [.str r.1, .int r.2.1, .int r.2.2]
theorem tR_inj {a b : Ride} (h : tR a = tR b) : a = b := by
  injection h with h; injection h with h1 h; injection h with h2 h; injection h with h3 h
  injection h1 with h1; injection h2 with h2; injection h3 with h3
  exact Prod.ext h1 (Prod.ext h2 h3)
def isInt (d : D) : Bool := match d with
  | .int _ => true
  | _ => false
/-! ### basics -/
def c_is_whole : Con := fun ds h P => match ds with
  | [.int _] => P (.bl true) h
  | _ => False
def rd_is_whole : TrS := bRet (bAndV (bBlt (isTyD "int" []) (bCons (bVar 0) (bCons (bC (.ty "int")) (bNil)))) (bNotV (bBlt (isTyD "bool" []) (bCons (bVar 0) (bCons (bC (.ty "bool")) (bNil))))))
theorem con_is_whole (ds : List D) (h : TH) (Q : TQ) (c : c_is_whole ds h Q) : rd_is_whole { nx := fun _ h' => less Q .non h', rt := less Q } (startT 1 ds) h := by
  unfold c_is_whole at c
  split at c
  · simp [rd_is_whole, bRet, bRetN, bChain, bBin, bVar, bC, bNil, bCons, bTup, bLst, bDnew, bB, blQ, bUn, bAnd, bOr, bNot, bTru, truD, bAndV, bOrV, bNotV, bIf, iiD, addD, subD, fdivD, modD, powD, mulD, negD, ltD, leD, gtD, geD, eqG, eqD, neD, isN, isND, notND, inG, inD, notInD, inSeq, ixD, bNo, bPart, bSl, slD, bRev, bCall, bMeth, bMake, bFld, bProp, bBlt, lenD, absD, maxD, minD, divmodD, listD, tupleD, allD, anyD, isTyD, tyNm, tyIs, isOwnD, gN, gsNil, gsCons, gT, gS, setD, bNext, bSeq, bBreak, bCont, bNever, bExpr, bIfS, bAsg, bPar, bPar3, bSetF, bAug, iT, iL, iR1, iR2, iS, iEn, bFor, bYes, bLc, bMt, tyD, appendD, extendD, popD, joinD, bLstRg, rg1, rg2, bLstZip, bCallK, dictD, sortedD, keyOf, startT, toPy, toPys, pyOf, tyIs]
    exact less_of c
  · exact c.elim
def c_is_from : Con := fun ds h P => match ds with
  | [.int i, .int j] => P (.bl (decide (j ≤ i))) h
  | _ => False
def rd_is_from : TrS := bRet (bAndV (bCall c_is_whole [] (bCons (bVar 0) (bNil))) (bBin geD (bVar 0) (bVar 1)))
theorem con_is_from (ds : List D) (h : TH) (Q : TQ) (c : c_is_from ds h Q) : rd_is_from { nx := fun _ h' => less Q .non h', rt := less Q } (startT 2 ds) h := by
  unfold c_is_from at c
  split at c
  · simp [rd_is_from, bRet, bRetN, bChain, bBin, bVar, bC, bNil, bCons, bTup, bLst, bDnew, bB, blQ, bUn, bAnd, bOr, bNot, bTru, truD, bAndV, bOrV, bNotV, bIf, iiD, addD, subD, fdivD, modD, powD, mulD, negD, ltD, leD, gtD, geD, eqG, eqD, neD, isN, isND, notND, inG, inD, notInD, inSeq, ixD, bNo, bPart, bSl, slD, bRev, bCall, bMeth, bMake, bFld, bProp, bBlt, lenD, absD, maxD, minD, divmodD, listD, tupleD, allD, anyD, isTyD, tyNm, tyIs, isOwnD, gN, gsNil, gsCons, gT, gS, setD, bNext, bSeq, bBreak, bCont, bNever, bExpr, bIfS, bAsg, bPar, bPar3, bSetF, bAug, iT, iL, iR1, iR2, iS, iEn, bFor, bYes, bLc, bMt, tyD, appendD, extendD, popD, joinD, bLstRg, rg1, rg2, bLstZip, bCallK, dictD, sortedD, keyOf, startT, toPy, toPys, pyOf, c_is_whole]
    exact less_of c
  · exact c.elim
def c_is_between : Con := fun ds h P => match ds with
  | [.int i, .int a, .int b] => P (.bl (decide (a ≤ i) && decide (i ≤ b))) h
  | _ => False
def rd_is_between : TrS := bRet (bAndV (bCall c_is_whole [] (bCons (bVar 0) (bNil))) (bChain leD leD (bVar 1) (bVar 0) (bVar 2)))
theorem con_is_between (ds : List D) (h : TH) (Q : TQ) (c : c_is_between ds h Q) : rd_is_between { nx := fun _ h' => less Q .non h', rt := less Q } (startT 3 ds) h := by
  unfold c_is_between at c
  split at c
  · rename_i i a b
    by_cases e : a ≤ i
    · simp [rd_is_between, bRet, bRetN, bChain, bBin, bVar, bC, bNil, bCons, bTup, bLst, bDnew, bB, blQ, bUn, bAnd, bOr, bNot, bTru, truD, bAndV, bOrV, bNotV, bIf, iiD, addD, subD, fdivD, modD, powD, mulD, negD, ltD, leD, gtD, geD, eqG, eqD, neD, isN, isND, notND, inG, inD, notInD, inSeq, ixD, bNo, bPart, bSl, slD, bRev, bCall, bMeth, bMake, bFld, bProp, bBlt, lenD, absD, maxD, minD, divmodD, listD, tupleD, allD, anyD, isTyD, tyNm, tyIs, isOwnD, gN, gsNil, gsCons, gT, gS, setD, bNext, bSeq, bBreak, bCont, bNever, bExpr, bIfS, bAsg, bPar, bPar3, bSetF, bAug, iT, iL, iR1, iR2, iS, iEn, bFor, bYes, bLc, bMt, tyD, appendD, extendD, popD, joinD, bLstRg, rg1, rg2, bLstZip, bCallK, dictD, sortedD, keyOf, startT, toPy, toPys, pyOf, c_is_whole, e]; simpa [e] using less_of c
    · simp [rd_is_between, bRet, bRetN, bChain, bBin, bVar, bC, bNil, bCons, bTup, bLst, bDnew, bB, blQ, bUn, bAnd, bOr, bNot, bTru, truD, bAndV, bOrV, bNotV, bIf, iiD, addD, subD, fdivD, modD, powD, mulD, negD, ltD, leD, gtD, geD, eqG, eqD, neD, isN, isND, notND, inG, inD, notInD, inSeq, ixD, bNo, bPart, bSl, slD, bRev, bCall, bMeth, bMake, bFld, bProp, bBlt, lenD, absD, maxD, minD, divmodD, listD, tupleD, allD, anyD, isTyD, tyNm, tyIs, isOwnD, gN, gsNil, gsCons, gT, gS, setD, bNext, bSeq, bBreak, bCont, bNever, bExpr, bIfS, bAsg, bPar, bPar3, bSetF, bAug, iT, iL, iR1, iR2, iS, iEn, bFor, bYes, bLc, bMt, tyD, appendD, extendD, popD, joinD, bLstRg, rg1, rg2, bLstZip, bCallK, dictD, sortedD, keyOf, startT, toPy, toPys, pyOf, c_is_whole, e]; simpa [e] using less_of c
  · exact c.elim
/-! ### names, trips -/
def letters : Str := "abcdefghijklmnopqrstuvwxyz"
def GoodName (w : Str) : Prop := 0 < w.length ∧ w.length < 9 ∧ ∀ c ∈ w.cps.toList, c ∈ letters.cps.toList
def c_is_name : Con := fun ds h P => match ds with
  | [.str w] => GoodName w ∧ P (.bl true) h
  | _ => False
def rd_is_name : TrS := bRet (bAndV (bBlt (isTyD "str" []) (bCons (bVar 0) (bCons (bC (.ty "str")) (bNil)))) (bAndV (bChain ltD ltD (bC (.int 0)) (bBlt lenD (bCons (bVar 0) (bNil))) (bC (.int 9))) (bBlt allD (bCons (bLc (iS (bVar 0)) (gN 1) (bYes) (bBin inD (bVar 1) (bC (.str "abcdefghijklmnopqrstuvwxyz"))) [1]) (bNil)))))
theorem con_is_name (ds : List D) (h : TH) (Q : TQ) (c : c_is_name ds h Q) : rd_is_name { nx := fun _ h' => less Q .non h', rt := less Q } (startT 2 ds) h := by
  unfold c_is_name at c
  split at c
  · rename_i w
    obtain ⟨⟨g1, g2, g3⟩, c⟩ := c
    have e1 : (0 : Int) < w.length := by omega
    have e2 : (w.length : Int) < 9 := by omega
    have e3 : w.length ≤ 100000 := by omega
    simp [rd_is_name, bRet, bRetN, bChain, bBin, bVar, bC, bNil, bCons, bTup, bLst, bDnew, bB, blQ, bUn, bAnd, bOr, bNot, bTru, truD, bAndV, bOrV, bNotV, bIf, iiD, addD, subD, fdivD, modD, powD, mulD, negD, ltD, leD, gtD, geD, eqG, eqD, neD, isN, isND, notND, inG, inD, notInD, inSeq, ixD, bNo, bPart, bSl, slD, bRev, bCall, bMeth, bMake, bFld, bProp, bBlt, lenD, absD, maxD, minD, divmodD, listD, tupleD, allD, anyD, isTyD, tyNm, tyIs, isOwnD, gN, gsNil, gsCons, gT, gS, setD, bNext, bSeq, bBreak, bCont, bNever, bExpr, bIfS, bAsg, bPar, bPar3, bSetF, bAug, iT, iL, iR1, iR2, iS, iEn, bFor, bYes, bLc, bMt, tyD, appendD, extendD, popD, joinD, bLstRg, rg1, rg2, bLstZip, bCallK, dictD, sortedD, keyOf, startT, toPy, toPys, pyOf, tyIs, e1, e2, e3]
    rw [if_pos g1]
    intro p hp
    refine lc_pure h (fun _ => some (.bl true)) _ [] hp ?_ (fun _ => trivial) (fun x hx acc Kn kn => ?_) ?_
    · simp; exact Nat.le_trans (Nat.le_of_lt g2) (by decide)
    · obtain ⟨c, hc, rfl⟩ := List.mem_map.mp hx
      simp only [lcItem, bRet, bRetN, bChain, bBin, bVar, bC, bNil, bCons, bTup, bLst, bDnew, bB, blQ, bUn, bAnd, bOr, bNot, bTru, truD, bAndV, bOrV, bNotV, bIf, iiD, addD, subD, fdivD, modD, powD, mulD, negD, ltD, leD, gtD, geD, eqG, eqD, neD, isN, isND, notND, inG, inD, notInD, inSeq, ixD, bNo, bPart, bSl, slD, bRev, bCall, bMeth, bMake, bFld, bProp, bBlt, lenD, absD, maxD, minD, divmodD, listD, tupleD, allD, anyD, isTyD, tyNm, tyIs, isOwnD, gN, gsNil, gsCons, gT, gS, setD, bNext, bSeq, bBreak, bCont, bNever, bExpr, bIfS, bAsg, bPar, bPar3, bSetF, bAug, iT, iL, iR1, iR2, iS, iEn, bFor, bYes, bLc, bMt, tyD, appendD, extendD, popD, joinD, bLstRg, rg1, rg2, bLstZip, bCallK, dictD, sortedD, keyOf, startT, toPy, toPys, pyOf, wipeT]
      refine ⟨c, rfl, ?_⟩
      have : decide (c ∈ letters.cps.toList) = true := decide_eq_true (g3 c hc)
      have kn := kn _ (Sub.refl _)
      rw [← this] at kn
      exact kn
    · have e : ([] : List D) ++ (w.cps.toList.map fun c => D.str ⟨#[c]⟩).filterMap (fun _ => some (D.bl true)) = (w.cps.toList.map fun _ => true).map D.bl := by rw [fm_some, List.nil_append, List.map_map, List.map_map]; rfl
      rw [e]
      simp only [boolsD, put_at, boolsOf_map]
      have e : ((w.cps.toList.map fun _ => true).all id) = true := by simp
      rw [e]
      exact less_sub (Sub.put hp) c
  · exact c.elim
/-- trips of a line -/
structure GoodRide (r : Ride) : Prop where
  nm : GoodName r.1
  s0 : 0 ≤ r.2.1
  lt : r.2.1 < r.2.2
def c_is_trip : Con := fun ds h P => ∃ r : Ride, ds = [tR r] ∧ GoodRide r ∧ P (.bl true) h
theorem is_trip_ok {r : Ride} {h : TH} {P : TQ} (g : GoodRide r) (p : P (.bl true) h) : c_is_trip [tR r] h P := ⟨r, rfl, g, p⟩
def rd_is_trip : TrS := bSeq (bIfS (bOr (bNot (bTru (bBlt (isTyD "tuple" []) (bCons (bVar 0) (bCons (bC (.ty "tuple")) (bNil)))))) (bOr (bB (bBin neD (bBlt lenD (bCons (bVar 0) (bNil))) (bC (.int 3)))) (bNot (bTru (bCall c_is_name [] (bCons (bBin ixD (bVar 0) (bC (.int 0))) (bNil))))))) (bRet (bC (.bl false))) (bNext)) (bRet (bAndV (bCall c_is_from [] (bCons (bBin ixD (bVar 0) (bC (.int 1))) (bCons (bC (.int 0)) (bNil)))) (bAndV (bCall c_is_whole [] (bCons (bBin ixD (bVar 0) (bC (.int 2))) (bNil))) (bBin gtD (bBin ixD (bVar 0) (bC (.int 2))) (bBin ixD (bVar 0) (bC (.int 1)))))))
theorem con_is_trip (ds : List D) (h : TH) (Q : TQ) (c : c_is_trip ds h Q) : rd_is_trip { nx := fun _ h' => less Q .non h', rt := less Q } (startT 1 ds) h := by
  obtain ⟨⟨w, s, e⟩, rfl, ⟨g, s0, lt⟩, c⟩ := c
  have s0 : 0 ≤ s := s0
  have lt : s < e := lt
  simp [rd_is_trip, bRet, bRetN, bChain, bBin, bVar, bC, bNil, bCons, bTup, bLst, bDnew, bB, blQ, bUn, bAnd, bOr, bNot, bTru, truD, bAndV, bOrV, bNotV, bIf, iiD, addD, subD, fdivD, modD, powD, mulD, negD, ltD, leD, gtD, geD, eqG, eqD, neD, isN, isND, notND, inG, inD, notInD, inSeq, ixD, bNo, bPart, bSl, slD, bRev, bCall, bMeth, bMake, bFld, bProp, bBlt, lenD, absD, maxD, minD, divmodD, listD, tupleD, allD, anyD, isTyD, tyNm, tyIs, isOwnD, gN, gsNil, gsCons, gT, gS, setD, bNext, bSeq, bBreak, bCont, bNever, bExpr, bIfS, bAsg, bPar, bPar3, bSetF, bAug, iT, iL, iR1, iR2, iS, iEn, bFor, bYes, bLc, bMt, tyD, appendD, extendD, popD, joinD, bLstRg, rg1, rg2, bLstZip, bCallK, dictD, sortedD, keyOf, startT, toPy, toPys, pyOf, tyIs, c_is_name, c_is_from, c_is_whole, g, s0, lt]
  exact less_of c
def c_check_seats : Con := fun ds h P => match ds with
  | [.int w] => 1 ≤ w ∧ w ≤ 20 ∧ P .non h
  | _ => False
def rd_check_seats : TrS := bIfS (bNot (bTru (bCall c_is_between [] (bCons (bVar 0) (bCons (bC (.int 1)) (bCons (bC (.int 20)) (bNil))))))) (bNever) (bNext)
theorem con_check_seats (ds : List D) (h : TH) (Q : TQ) (c : c_check_seats ds h Q) : rd_check_seats { nx := fun _ h' => less Q .non h', rt := less Q } (startT 1 ds) h := by
  unfold c_check_seats at c
  split at c
  · rename_i w
    obtain ⟨h1, h2, c⟩ := c
    simp [rd_check_seats, bRet, bRetN, bChain, bBin, bVar, bC, bNil, bCons, bTup, bLst, bDnew, bB, blQ, bUn, bAnd, bOr, bNot, bTru, truD, bAndV, bOrV, bNotV, bIf, iiD, addD, subD, fdivD, modD, powD, mulD, negD, ltD, leD, gtD, geD, eqG, eqD, neD, isN, isND, notND, inG, inD, notInD, inSeq, ixD, bNo, bPart, bSl, slD, bRev, bCall, bMeth, bMake, bFld, bProp, bBlt, lenD, absD, maxD, minD, divmodD, listD, tupleD, allD, anyD, isTyD, tyNm, tyIs, isOwnD, gN, gsNil, gsCons, gT, gS, setD, bNext, bSeq, bBreak, bCont, bNever, bExpr, bIfS, bAsg, bPar, bPar3, bSetF, bAug, iT, iL, iR1, iR2, iS, iEn, bFor, bYes, bLc, bMt, tyD, appendD, extendD, popD, joinD, bLstRg, rg1, rg2, bLstZip, bCallK, dictD, sortedD, keyOf, startT, toPy, toPys, pyOf, c_is_between, h1, h2]
    exact less_of c
  · exact c.elim
/-! ### a line's trips -/
def ltS (a b : Str) : Bool := decide (a.cps.toList < b.cps.toList)
structure GoodRides (rs : List Ride) : Prop where
  each : ∀ r ∈ rs, GoodRide r
  asc : rs.Pairwise fun a b => ltS a.1 b.1 = true
  len : rs.length ≤ 24
def c_first_wrong : Con := fun ds h P => ∃ rs : List Ride, ds = [.tup (rs.map tR)] ∧ GoodRides rs ∧ P .non h
def rd_first_wrong : TrS := bSeq (bFor (iEn (bVar 0)) (gT 2 (gsCons (gN 1) (gsCons (gN 2) (gsNil)))) (bIfS (bOr (bB (bBin geD (bVar 1) (bC (.int 24)))) (bOr (bNot (bTru (bCall c_is_trip [] (bCons (bVar 2) (bNil))))) (bAnd (bB (bBin gtD (bVar 1) (bC (.int 0)))) (bB (bBin leD (bBin ixD (bVar 2) (bC (.int 0))) (bBin ixD (bBin ixD (bVar 0) (bBin subD (bVar 1) (bC (.int 1)))) (bC (.int 0)))))))) (bRet (bVar 1)) (bNext))) (bRet (bC .non))
theorem numbered_at : ∀ (k : Nat) (xs : List D) (i : Nat) (x : D), xs[i]? = some x → (numbered k xs)[i]? = some (.tup [.int ((k + i : Nat) : Int), x])
  | _, [], _, _, e => by simp at e
  | k, y :: xs, 0, x, e => by simp at e; subst e; rfl
  | k, y :: xs, i + 1, x, e => by
    have := numbered_at (k + 1) xs i x (by simpa using e)
    rw [show k + 1 + i = k + (i + 1) by omega] at this
    simpa [numbered] using this
theorem con_first_wrong (ds : List D) (h : TH) (Q : TQ) (c : c_first_wrong ds h Q) : rd_first_wrong { nx := fun _ h' => less Q .non h', rt := less Q } (startT 3 ds) h := by
  obtain ⟨rs, rfl, g, c⟩ := c
  simp only [rd_first_wrong, bRet, bRetN, bChain, bBin, bVar, bC, bNil, bCons, bTup, bLst, bDnew, bB, blQ, bUn, bAnd, bOr, bNot, bTru, truD, bAndV, bOrV, bNotV, bIf, iiD, addD, subD, fdivD, modD, powD, mulD, negD, ltD, leD, gtD, geD, eqG, eqD, neD, isN, isND, notND, inG, inD, notInD, inSeq, ixD, bNo, bPart, bSl, slD, bRev, bCall, bMeth, bMake, bFld, bProp, bBlt, lenD, absD, maxD, minD, divmodD, listD, tupleD, allD, anyD, isTyD, tyNm, tyIs, isOwnD, gN, gsNil, gsCons, gT, gS, setD, bNext, bSeq, bBreak, bCont, bNever, bExpr, bIfS, bAsg, bPar, bPar3, bSetF, bAug, iT, iL, iR1, iR2, iS, iEn, bFor, bYes, bLc, bMt, tyD, appendD, extendD, popD, joinD, bLstRg, rg1, rg2, bLstZip, bCallK, dictD, sortedD, keyOf, startT, toPy, toPys, pyOf]
  simp
  refine loop_inv _ (fun i ds' h' => h' = h ∧ ∃ a b, ds' = [some (.tup (rs.map tR)), a, b]) ⟨rfl, _, _, rfl⟩ (fun _ _ _ _ _ => trivial) (fun i x ds' h' Kn e q kn => ?_) (fun ds' h' q => ?_)
  · obtain ⟨rfl, a, b, rfl⟩ := q
    obtain ⟨y, e1, rfl⟩ := numbered_get _ _ _ _ e
    rw [List.getElem?_map] at e1
    cases e2 : rs[i]? with
    | none => rw [e2] at e1; cases e1
    | some r =>
      rw [e2] at e1; cases e1
      have hi : i < rs.length := (List.getElem?_eq_some_iff.mp e2).1
      have hr : r ∈ rs := List.mem_of_getElem? e2
      have hl := g.len
      have n24 : ¬ (24 : Int) ≤ i := by omega
      have gr := g.each r hr
      by_cases h0 : 0 < i
      · obtain ⟨j, rfl⟩ : ∃ j, i = j + 1 := ⟨i - 1, by omega⟩
        have hj : j < rs.length := by omega
        have ej : atI (rs.map tR) (((j + 1 : Nat) : Int) - 1) = some (tR rs[j]) := by
          rw [show (((j + 1 : Nat) : Int) - 1) = ((j : Nat) : Int) by omega, atI_nat _ j (by simpa using hj)]; simp [hj]
        have lt : ltS rs[j].1 r.1 = true := by
          have := List.pairwise_iff_getElem.mp g.asc j (j + 1) hj hi (Nat.lt_succ_self j)
          rwa [(List.getElem?_eq_some_iff.mp e2).2] at this
        have lt2 : lexS rs[j].1 r.1 = true := lt
        have p1 : (0 : Int) < ((j + 1 : Nat) : Int) := by omega
        simp only [bRet, bRetN, bChain, bBin, bVar, bC, bNil, bCons, bTup, bLst, bDnew, bB, blQ, bUn, bAnd, bOr, bNot, bTru, truD, bAndV, bOrV, bNotV, bIf, iiD, addD, subD, fdivD, modD, powD, mulD, negD, ltD, leD, gtD, geD, eqG, eqD, neD, isN, isND, notND, inG, inD, notInD, inSeq, ixD, bNo, bPart, bSl, slD, bRev, bCall, bMeth, bMake, bFld, bProp, bBlt, lenD, absD, maxD, minD, divmodD, listD, tupleD, allD, anyD, isTyD, tyNm, tyIs, isOwnD, gN, gsNil, gsCons, gT, gS, setD, bNext, bSeq, bBreak, bCont, bNever, bExpr, bIfS, bAsg, bPar, bPar3, bSetF, bAug, iT, iL, iR1, iR2, iS, iEn, bFor, bYes, bLc, bMt, tyD, appendD, extendD, popD, joinD, bLstRg, rg1, rg2, bLstZip, bCallK, dictD, sortedD, keyOf, startT, toPy, toPys, pyOf, Nat.zero_add, n24, p1, ej, lt2, List.length_cons, List.length_nil, List.set_cons_zero, List.set_cons_succ, List.getElem?_cons_zero, List.getElem?_cons_succ, atI_0, atI_1, atI_2]
        simp [n24]
        refine is_trip_ok gr ?_
        simp
        exact kn _ _ ⟨rfl, _, _, rfl⟩
      · have : i = 0 := by omega
        subst this
        simp only [bRet, bRetN, bChain, bBin, bVar, bC, bNil, bCons, bTup, bLst, bDnew, bB, blQ, bUn, bAnd, bOr, bNot, bTru, truD, bAndV, bOrV, bNotV, bIf, iiD, addD, subD, fdivD, modD, powD, mulD, negD, ltD, leD, gtD, geD, eqG, eqD, neD, isN, isND, notND, inG, inD, notInD, inSeq, ixD, bNo, bPart, bSl, slD, bRev, bCall, bMeth, bMake, bFld, bProp, bBlt, lenD, absD, maxD, minD, divmodD, listD, tupleD, allD, anyD, isTyD, tyNm, tyIs, isOwnD, gN, gsNil, gsCons, gT, gS, setD, bNext, bSeq, bBreak, bCont, bNever, bExpr, bIfS, bAsg, bPar, bPar3, bSetF, bAug, iT, iL, iR1, iR2, iS, iEn, bFor, bYes, bLc, bMt, tyD, appendD, extendD, popD, joinD, bLstRg, rg1, rg2, bLstZip, bCallK, dictD, sortedD, keyOf, startT, toPy, toPys, pyOf, Nat.zero_add, n24, List.length_cons, List.length_nil, List.set_cons_zero, List.set_cons_succ, List.getElem?_cons_zero, List.getElem?_cons_succ, atI_0, atI_1, atI_2]
        simp
        refine is_trip_ok gr ?_
        simp
        exact kn _ _ ⟨rfl, _, _, rfl⟩
  · obtain ⟨rfl, a, b, rfl⟩ := q
    exact less_of c
theorem first_wrong_ok {rs : List Ride} {h : TH} {P : TQ} (g : GoodRides rs) (p : P .non h) : c_first_wrong [.tup (rs.map tR)] h P := ⟨rs, rfl, g, p⟩
/-! ### by their starts -/
abbrev tRow (r : Ride) : D := .tup [.int r.2.1, .str r.1, tR r]
end T
set_option Elab.async false
set_option linter.all false
set_option maxRecDepth 100000
set_option maxHeartbeats 1000000
namespace T
open PySem L2 PyProof.Rows
open PySem.W (DatumOrd Datum T3 dataLe dataLt AllAlike Sortable)
/-! ### sorting typed data -/
theorem sortD_map {β : Type} (f : β → D) (bs : List β) : sortD (bs.map f) = (bs.mergeSort (dataLe false fun b => pyD (f b))).map f := by
  unfold sortD
  exact (PySem.W.sort_maps f (fun a _ b _ => rfl)).symm
theorem dataLe_of {β α : Type} [DecidableEq α] [DatumOrd α] (k : β → PyData) (t : β → α) (h : ∀ b, k b = Datum.toD (t b)) (a b : β) : dataLe false k a b = !DatumOrd.lt (t b) (t a) := by
  show (!dataLt (k b) (k a)) = _
  rw [h, h, DatumOrd.lt_eq]
theorem sort_pw {β : Type} (k : β → PyData) (bs : List β) : (bs.mergeSort (dataLe false k)).Pairwise fun a b => dataLe false k a b = true :=
  PySem.W.sort_pairwise (PySem.W.sortLe_total _ false _) bs
theorem sort_perm {β : Type} (k : β → PyData) (bs : List β) : (bs.mergeSort (dataLe false k)).Perm bs := List.mergeSort_perm _ _
theorem sortOk_of {β α : Type} [DecidableEq α] [DatumOrd α] (f : β → D) (t : β → α) (bs : List β) (hl : bs.length ≤ 100000) (h1 : ∀ b, toPy (f b) = some (pyD (f b))) (h2 : ∀ b, (pyD (f b)).depth ≤ 60) (h3 : ∀ b, pyD (f b) = Datum.toD (t b)) (h4 : ∀ b, ∃ x r, pyD (f b) = .tuple (x :: r)) : SortOk (bs.map f) := by
  refine ⟨by simpa using hl, fun d hd => ?_, ?_, ?_⟩
  · obtain ⟨b, _, rfl⟩ := List.mem_map.mp hd
    exact ⟨h1 b, h2 b⟩
  · rw [List.map_map]
    exact PySem.W.AllAlike.of fun b b' => by
      show PySem.W.alike (pyD (f b)) (pyD (f b')) = true
      rw [h3, h3]; exact DatumOrd.alike _ _
  · rw [List.map_map]
    exact PySem.W.Sortable.tuples h4
/-! rides -/
theorem py_tR (r : Ride) : pyD (tR r) = .tuple [.str r.1, .int r.2.1, .int r.2.2] := rfl
theorem toPy_tR (r : Ride) : toPy (tR r) = some (.tuple [.str r.1, .int r.2.1, .int r.2.2]) := rfl
def tyR (r : Ride) : T3 Str Int Int := ⟨r.1, r.2.1, r.2.2⟩
def tyRow (r : Ride) : T3 Int Str (T3 Str Int Int) := ⟨r.2.1, r.1, tyR r⟩
theorem sortOk_rides (rs : List Ride) (hl : rs.length ≤ 100000) : SortOk (rs.map tR) := sortOk_of tR tyR rs hl (fun _ => rfl) (fun b => by rw [py_tR]; simp [PyData.depth, PyData.depthAll]) (fun b => rfl) fun b => ⟨_, _, rfl⟩
theorem sortOk_rows (rs : List Ride) (hl : rs.length ≤ 100000) : SortOk (rs.map tRow) := sortOk_of tRow tyRow rs hl (fun _ => rfl) (fun b => by show (PyData.tuple [.int b.2.1, .str b.1, .tuple [.str b.1, .int b.2.1, .int b.2.2]]).depth ≤ 60; simp [PyData.depth, PyData.depthAll]) (fun b => rfl) fun b => ⟨_, _, rfl⟩
def byStart (rs : List Ride) : List Ride := rs.mergeSort (dataLe false fun r => pyD (tRow r))
def byName (rs : List Ride) : List Ride := rs.mergeSort (dataLe false fun r => pyD (tR r))
theorem byStart_perm (rs : List Ride) : (byStart rs).Perm rs := sort_perm _ rs
theorem byName_perm (rs : List Ride) : (byName rs).Perm rs := sort_perm _ rs
theorem byStart_pw (rs : List Ride) : (byStart rs).Pairwise fun a b => a.2.1 ≤ b.2.1 := by
  refine (sort_pw _ rs).imp fun {a b} h => ?_
  rw [dataLe_of (fun r => pyD (tRow r)) tyRow (fun b => rfl)] at h
  have h : (!(if b.2.1 = a.2.1 then (if b.1 = a.1 then DatumOrd.lt (tyR b) (tyR a) else DatumOrd.lt b.1 a.1) else decide (b.2.1 < a.2.1))) = true := h
  by_cases e : b.2.1 = a.2.1
  · omega
  · rw [if_neg e] at h; simp at h; omega
theorem ltS_of {a b : Str} (n : a ≠ b) (h : decide (b.cps.toList < a.cps.toList) = false) : ltS a b = true := by
  unfold ltS
  simp only [decide_eq_false_iff_not, decide_eq_true_eq] at h ⊢
  rcases List.le_total a.cps.toList b.cps.toList with q | q
  · rcases Classical.em (a.cps.toList < b.cps.toList) with z | z
    · exact z
    · exact absurd (str_of_cps (List.le_antisymm q (List.not_lt.mp z))) n
  · exact absurd (str_of_cps (List.le_antisymm (List.not_lt.mp h) q)) n
theorem byName_asc (rs : List Ride) (nd : (rs.map (·.1)).Nodup) : (byName rs).Pairwise fun a b => ltS a.1 b.1 = true := by
  have nd' : ((byName rs).map (·.1)).Nodup := (((byName_perm rs).map (·.1)).nodup_iff).mpr nd
  have p := sort_pw (fun r => pyD (tR r)) rs
  have p2 : (byName rs).Pairwise fun a b => a.1 ≠ b.1 := List.pairwise_map.mp nd'
  refine (p.and p2).imp fun {a b} h => ?_
  obtain ⟨h, n⟩ := h
  rw [dataLe_of (fun r => pyD (tR r)) tyR (fun b => rfl)] at h
  have h : (!(if b.1 = a.1 then (if b.2.1 = a.2.1 then DatumOrd.lt b.2.2 a.2.2 else DatumOrd.lt b.2.1 a.2.1) else decide (b.1.cps.toList < a.1.cps.toList))) = true := h
  rw [if_neg (Ne.symm n), Bool.not_eq_true'] at h
  exact ltS_of n h
/-! pairs of names -/
abbrev tP (p : Str × Str) : D := .tup [.str p.1, .str p.2]
theorem sortOk_pairs (ps : List (Str × Str)) (hl : ps.length ≤ 100000) : SortOk (ps.map tP) := sortOk_of tP id ps hl (fun _ => rfl) (fun b => by show (PyData.tuple [.str b.1, .str b.2]).depth ≤ 60; simp [PyData.depth, PyData.depthAll]) (fun b => rfl) fun b => ⟨_, _, rfl⟩
def sortP (ps : List (Str × Str)) : List (Str × Str) := ps.mergeSort (dataLe false fun p => pyD (tP p))
theorem sortP_perm (ps : List (Str × Str)) : (sortP ps).Perm ps := sort_perm _ ps
theorem sortP_asc (ps : List (Str × Str)) (nd : (ps.map (·.1)).Nodup) : (sortP ps).Pairwise fun a b => ltS a.1 b.1 = true := by
  have nd' : ((sortP ps).map (·.1)).Nodup := (((sortP_perm ps).map (·.1)).nodup_iff).mpr nd
  have p := sort_pw (fun r => pyD (tP r)) ps
  have p2 : (sortP ps).Pairwise fun a b => a.1 ≠ b.1 := List.pairwise_map.mp nd'
  refine (p.and p2).imp fun {a b} h => ?_
  obtain ⟨h, n⟩ := h
  rw [dataLe_of (α := Str × Str) (fun r => pyD (tP r)) id (fun b => rfl)] at h
  have h : (!(if b.1 = a.1 then DatumOrd.lt b.2 a.2 else decide (b.1.cps.toList < a.1.cps.toList))) = true := h
  rw [if_neg (Ne.symm n), Bool.not_eq_true'] at h
  exact ltS_of n h
theorem ltS_irrefl (a : Str) : ltS a a = false := by unfold ltS; simp
theorem ltS_asymm {a b : Str} (h : ltS a b = true) : ltS b a = false := by
  unfold ltS at *
  simp only [decide_eq_true_eq, decide_eq_false_iff_not] at *
  exact fun q => List.lt_irrefl _ (List.lt_trans h q)
theorem asc_uniq {β : Type} (f : β → Str) {l m : List β} (p : l.Perm m) (hl : l.Pairwise fun a b => ltS (f a) (f b) = true) (hm : m.Pairwise fun a b => ltS (f a) (f b) = true) : l = m :=
  List.Perm.eq_of_pairwise (le := fun a b => ltS (f a) (f b) = true) (fun a b _ _ h1 h2 => by rw [ltS_asymm h1] at h2; cases h2) hl hm p
end T
set_option Elab.async false
set_option linter.all false
set_option maxRecDepth 100000
set_option maxHeartbeats 1000000
namespace T
open PySem L2 PyProof.Rows
/-! ### a line's own defs -/
def c_by_start : Con := fun ds h P => ∃ rs : List Ride, ds = [.tup (rs.map tR)] ∧ rs.length ≤ 24 ∧ ∀ q, h q = none → P (.ref q) (put h q (.lst ((byStart rs).map tR)))
theorem by_start_ok {rs : List Ride} {h : TH} {P : TQ} (l : rs.length ≤ 24) (p : ∀ q, h q = none → P (.ref q) (put h q (.lst ((byStart rs).map tR)))) : c_by_start [.tup (rs.map tR)] h P := ⟨rs, rfl, l, p⟩
def rd_by_start : TrS := bRet (bLc (iL (bBlt sortedD (bCons (bLc (iT (bVar 0)) (gN 2) (bYes) (bTup (bCons (bBin ixD (bVar 2) (bC (.int 1))) (bCons (bBin ixD (bVar 2) (bC (.int 0))) (bCons (bVar 2) (bNil))))) [2]) (bNil)))) (gN 1) (bYes) (bBin ixD (bVar 1) (bC (.int 2))) [1])
/-- a comprehension over typed items, each item adds one; nothing else happens -/
theorem lc_map {α : Type} {p : Addr} {stay : TH → Prop} {g : TrG} {tt : TrT} {te : TrE} {dsw : TS0} {P : TH → Prop} (h : TH) (e : α → D) (f : α → D) (xs : List α) (hp : h p = none) (hl : xs.length ≤ 100000) (hs : ∀ acc, stay (put h p (.lst acc)))
    (hx : ∀ x ∈ xs, ∀ (acc : List D) (Kn : Option D → TH → Prop), Kn (some (f x)) (put h p (.lst acc)) → lcItem g tt te dsw (e x) (put h p (.lst acc)) Kn)
    (q : P (put h p (.lst (xs.map f)))) : lcR p stay g tt te dsw P (xs.map e) (put h p (.lst [])) := by
  have key : ∀ (xs : List α) (acc : List D), (∀ x ∈ xs, ∀ (acc : List D) (Kn : Option D → TH → Prop), Kn (some (f x)) (put h p (.lst acc)) → lcItem g tt te dsw (e x) (put h p (.lst acc)) Kn) → acc.length + xs.length ≤ 100000 → P (put h p (.lst (acc ++ xs.map f))) → lcR p stay g tt te dsw P (xs.map e) (put h p (.lst acc)) := by
    intro xs
    induction xs with
    | nil => intro acc _ _ q; exact ⟨hs acc, by simpa using q⟩
    | cons x r ih =>
      intro acc hx hl q
      refine ⟨hs acc, ?_⟩
      show lcItem g tt te dsw (e x) (put h p (.lst acc)) fun o h4 => match o with
        | some y => ∃ h5, Sub h5 h4 ∧ ∃ acc, h5 p = some (.lst acc) ∧ acc.length < 100000 ∧ lcR p stay g tt te dsw P (r.map e) (put h5 p (.lst (acc ++ [y])))
        | none => ∃ h5, Sub h5 h4 ∧ lcR p stay g tt te dsw P (r.map e) h5
      rw [List.length_cons] at hl
      refine hx x List.mem_cons_self acc _ ⟨put h p (.lst acc), Sub.refl _, acc, put_same, by omega, ?_⟩
      rw [put_put]
      refine ih (acc ++ [f x]) (fun y hy => hx y (List.mem_cons_of_mem _ hy)) (by simp; omega) ?_
      rw [List.append_assoc]; exact q
  exact key xs [] hx (by simpa using hl) (by simpa using q)
/-- with a test -/
theorem lc_filter {α : Type} {p : Addr} {stay : TH → Prop} {g : TrG} {tt : TrT} {te : TrE} {dsw : TS0} {P : TH → Prop} (h : TH) (e : α → D) (c : α → Bool) (f : α → D) (xs : List α) (hp : h p = none) (hl : xs.length ≤ 100000) (hs : ∀ acc, stay (put h p (.lst acc)))
    (hx : ∀ x ∈ xs, ∀ (acc : List D) (Kn : Option D → TH → Prop), (∀ h', Sub (put h p (.lst acc)) h' → Kn (if c x then some (f x) else none) h') → lcItem g tt te dsw (e x) (put h p (.lst acc)) Kn)
    (q : P (put h p (.lst ((xs.filter c).map f)))) : lcR p stay g tt te dsw P (xs.map e) (put h p (.lst [])) := by
  have key : ∀ (xs : List α) (acc : List D), (∀ x ∈ xs, ∀ (acc : List D) (Kn : Option D → TH → Prop), (∀ h', Sub (put h p (.lst acc)) h' → Kn (if c x then some (f x) else none) h') → lcItem g tt te dsw (e x) (put h p (.lst acc)) Kn) → acc.length + xs.length ≤ 100000 → P (put h p (.lst (acc ++ (xs.filter c).map f))) → lcR p stay g tt te dsw P (xs.map e) (put h p (.lst acc)) := by
    intro xs
    induction xs with
    | nil => intro acc _ _ q; exact ⟨hs acc, by simpa using q⟩
    | cons x r ih =>
      intro acc hx hl q
      refine ⟨hs acc, ?_⟩
      show lcItem g tt te dsw (e x) (put h p (.lst acc)) fun o h4 => match o with
        | some y => ∃ h5, Sub h5 h4 ∧ ∃ acc, h5 p = some (.lst acc) ∧ acc.length < 100000 ∧ lcR p stay g tt te dsw P (r.map e) (put h5 p (.lst (acc ++ [y])))
        | none => ∃ h5, Sub h5 h4 ∧ lcR p stay g tt te dsw P (r.map e) h5
      rw [List.length_cons] at hl
      refine hx x List.mem_cons_self acc _ fun h' sb => ?_
      by_cases z : c x = true
      · rw [if_pos z]
        refine ⟨put h p (.lst acc), sb, acc, put_same, by omega, ?_⟩
        rw [put_put]
        refine ih (acc ++ [f x]) (fun y hy => hx y (List.mem_cons_of_mem _ hy)) (by simp; omega) ?_
        rw [List.filter_cons_of_pos z] at q
        rw [List.append_assoc]; exact q
      · rw [if_neg z]
        refine ⟨put h p (.lst acc), sb, ih acc (fun y hy => hx y (List.mem_cons_of_mem _ hy)) (by omega) ?_⟩
        rw [List.filter_cons_of_neg z] at q; exact q
  exact key xs [] hx (by simpa using hl) (by simpa using q)
theorem con_by_start (ds : List D) (h : TH) (Q : TQ) (c : c_by_start ds h Q) : rd_by_start { nx := fun _ h' => less Q .non h', rt := less Q } (startT 3 ds) h := by
  obtain ⟨rs, rfl, hl, c⟩ := c
  simp [rd_by_start, bRet, bRetN, bChain, bBin, bVar, bC, bNil, bCons, bTup, bLst, bDnew, bB, blQ, bUn, bAnd, bOr, bNot, bTru, truD, bAndV, bOrV, bNotV, bIf, iiD, addD, subD, fdivD, modD, powD, mulD, negD, ltD, leD, gtD, geD, eqG, eqD, neD, isN, isND, notND, inG, inD, notInD, inSeq, ixD, bNo, bPart, bSl, slD, bRev, bCall, bMeth, bMake, bFld, bProp, bBlt, lenD, absD, maxD, minD, divmodD, listD, tupleD, allD, anyD, isTyD, tyNm, tyIs, isOwnD, gN, gsNil, gsCons, gT, gS, setD, bNext, bSeq, bBreak, bCont, bNever, bExpr, bIfS, bAsg, bPar, bPar3, bSetF, bAug, iT, iL, iR1, iR2, iS, iEn, bFor, bYes, bLc, bMt, tyD, appendD, extendD, popD, joinD, bLstRg, rg1, rg2, bLstZip, bCallK, dictD, sortedD, keyOf, startT, toPy, toPys, pyOf]
  intro p hp
  refine lc_map h tR tRow rs hp (by omega) (fun _ => trivial) (fun r hr acc Kn kn => ?_) ?_
  · simp [lcItem, bRet, bRetN, bChain, bBin, bVar, bC, bNil, bCons, bTup, bLst, bDnew, bB, blQ, bUn, bAnd, bOr, bNot, bTru, truD, bAndV, bOrV, bNotV, bIf, iiD, addD, subD, fdivD, modD, powD, mulD, negD, ltD, leD, gtD, geD, eqG, eqD, neD, isN, isND, notND, inG, inD, notInD, inSeq, ixD, bNo, bPart, bSl, slD, bRev, bCall, bMeth, bMake, bFld, bProp, bBlt, lenD, absD, maxD, minD, divmodD, listD, tupleD, allD, anyD, isTyD, tyNm, tyIs, isOwnD, gN, gsNil, gsCons, gT, gS, setD, bNext, bSeq, bBreak, bCont, bNever, bExpr, bIfS, bAsg, bPar, bPar3, bSetF, bAug, iT, iL, iR1, iR2, iS, iEn, bFor, bYes, bLc, bMt, tyD, appendD, extendD, popD, joinD, bLstRg, rg1, rg2, bLstZip, bCallK, dictD, sortedD, keyOf, startT, toPy, toPys, pyOf, wipeT]
    exact kn
  · simp only [put_at]
    refine ⟨sortOk_rows rs (by omega), fun p2 hp2 => ?_⟩
    rw [sortD_map]
    intro p3 hp3
    refine lc_map (put (put h p _) p2 _) tRow tR (byStart rs) hp3 (by rw [(byStart_perm rs).length_eq]; omega) (fun _ => ?_) (fun r hr acc Kn kn => ?_) ?_
    · exact put_off put_same hp3
    · simp [lcItem, bRet, bRetN, bChain, bBin, bVar, bC, bNil, bCons, bTup, bLst, bDnew, bB, blQ, bUn, bAnd, bOr, bNot, bTru, truD, bAndV, bOrV, bNotV, bIf, iiD, addD, subD, fdivD, modD, powD, mulD, negD, ltD, leD, gtD, geD, eqG, eqD, neD, isN, isND, notND, inG, inD, notInD, inSeq, ixD, bNo, bPart, bSl, slD, bRev, bCall, bMeth, bMake, bFld, bProp, bBlt, lenD, absD, maxD, minD, divmodD, listD, tupleD, allD, anyD, isTyD, tyNm, tyIs, isOwnD, gN, gsNil, gsCons, gT, gS, setD, bNext, bSeq, bBreak, bCont, bNever, bExpr, bIfS, bAsg, bPar, bPar3, bSetF, bAug, iT, iL, iR1, iR2, iS, iEn, bFor, bYes, bLc, bMt, tyD, appendD, extendD, popD, joinD, bLstRg, rg1, rg2, bLstZip, bCallK, dictD, sortedD, keyOf, startT, toPy, toPys, pyOf, wipeT]
      exact kn
    · have h3 := (put_none (put_none hp3).1).1
      exact less_sub (Sub.upd ((Sub.put hp).trans (Sub.put hp2))) (c p3 h3)
/-- a line: its seats, its trips -/
def LineAt (h : TH) (p : Addr) (w : Int) (rs : List Ride) : Prop := ∃ q, h p = some (.ins "Line" [("width", .int w), ("booked", .tup (rs.map tR)), ("rows", .ref q)]) ∧ h q = some (.lst ((byStart rs).map tR))
theorem LineAt.sub {h h' : TH} {p : Addr} {w : Int} {rs : List Ride} (s : Sub h h') (l : LineAt h p w rs) : LineAt h' p w rs := by
  obtain ⟨q, a, b⟩ := l
  exact ⟨q, s _ _ a, s _ _ b⟩
/-- what a new line adds -/
def newLine (h : TH) (p q : Addr) (w : Int) (rs : List Ride) : TH := put (put h q (.lst ((byStart rs).map tR))) p (.ins "Line" [("width", .int w), ("booked", .tup (rs.map tR)), ("rows", .ref q)])
theorem newLine_at {h : TH} {p q : Addr} {w : Int} {rs : List Ride} (hp : h p = none) (hq : h q = none) (n : q ≠ p) : LineAt (newLine h p q w rs) p w rs := ⟨q, put_same, by unfold newLine; rw [put_ne n, put_same]⟩
theorem newLine_sub {h : TH} {p q : Addr} {w : Int} {rs : List Ride} (hp : h p = none) (hq : h q = none) (n : q ≠ p) : Sub h (newLine h p q w rs) := (Sub.put hq).trans (Sub.put (by rw [put_ne n.symm]; exact hp))
theorem ne_wb : ¬ (Str.ofString "width" = Str.ofString "booked") := by decide +kernel
theorem ne_wr : ¬ (Str.ofString "width" = Str.ofString "rows") := by decide +kernel
theorem ne_br : ¬ (Str.ofString "booked" = Str.ofString "rows") := by decide +kernel
def c_Line_init : Con := fun ds h P => ∃ (p : Addr) (w : Int) (rs : List Ride), ds = [.ref p, .int w, .tup (rs.map tR)] ∧ h p = some (.ins "Line" []) ∧ 1 ≤ w ∧ w ≤ 20 ∧ GoodRides rs ∧ ∀ q, h q = none → P .non (newLine h p q w rs)
def rd_Line_init : TrS := bSeq (bExpr (bCall c_check_seats [] (bCons (bVar 1) (bNil)))) (bSeq (bIfS (bNot (bTru (bBlt (isTyD "tuple" []) (bCons (bVar 2) (bCons (bC (.ty "tuple")) (bNil)))))) (bNever) (bNext)) (bSeq (bAsg (bCall c_first_wrong [] (bCons (bVar 2) (bNil))) (gN 3)) (bSeq (bIfS (bB (bBin notND (bVar 3) (bC .non))) (bNever) (bNext)) (bSeq (bSetF "Line" "width" (bVar 1) (bVar 0)) (bSeq (bSetF "Line" "booked" (bVar 2) (bVar 0)) (bSetF "Line" "rows" (bCall c_by_start [] (bCons (bVar 2) (bNil))) (bVar 0)))))))
theorem con_Line_init (ds : List D) (h : TH) (Q : TQ) (c : c_Line_init ds h Q) : rd_Line_init { nx := fun _ h' => less Q .non h', rt := less Q } (startT 4 ds) h := by
  obtain ⟨p, w, rs, rfl, hp, w1, w2, g, c⟩ := c
  simp [rd_Line_init, bRet, bRetN, bChain, bBin, bVar, bC, bNil, bCons, bTup, bLst, bDnew, bB, blQ, bUn, bAnd, bOr, bNot, bTru, truD, bAndV, bOrV, bNotV, bIf, iiD, addD, subD, fdivD, modD, powD, mulD, negD, ltD, leD, gtD, geD, eqG, eqD, neD, isN, isND, notND, inG, inD, notInD, inSeq, ixD, bNo, bPart, bSl, slD, bRev, bCall, bMeth, bMake, bFld, bProp, bBlt, lenD, absD, maxD, minD, divmodD, listD, tupleD, allD, anyD, isTyD, tyNm, tyIs, isOwnD, gN, gsNil, gsCons, gT, gS, setD, bNext, bSeq, bBreak, bCont, bNever, bExpr, bIfS, bAsg, bPar, bPar3, bSetF, bAug, iT, iL, iR1, iR2, iS, iEn, bFor, bYes, bLc, bMt, tyD, appendD, extendD, popD, joinD, bLstRg, rg1, rg2, bLstZip, bCallK, dictD, sortedD, keyOf, startT, toPy, toPys, pyOf, c_check_seats, w1, w2, tyIs]
  refine first_wrong_ok g ?_
  simp [hp, putFT, ne_wb]
  refine by_start_ok g.len fun q hq => ?_
  have nq : q ≠ p := fun z => by rw [z, put_same] at hq; cases hq
  have nq2 : p ≠ q := fun z => nq z.symm
  simp [put_ne nq2, putFT, ne_wb, ne_wr, ne_br]
  have hq0 : h q = none := by rw [put_put, put_ne nq] at hq; exact hq
  have e := less_of (c q hq0)
  have e2 : put (put (put (put h p (.ins "Line" [("width", .int w)])) p (.ins "Line" [("width", .int w), ("booked", .tup (rs.map tR))])) q (.lst ((byStart rs).map tR))) p (.ins "Line" [("width", .int w), ("booked", .tup (rs.map tR)), ("rows", .ref q)]) = newLine h p q w rs := by
    unfold newLine
    rw [put_put, put_comm nq2, put_put]
  rw [e2]
  exact e
/-! ### what a line tells -/
def c_Line_capacity : Con := fun ds h P => ∃ (p : Addr) (w : Int) (rs : List Ride), ds = [.ref p] ∧ LineAt h p w rs ∧ P (.int w) h
def c_Line_trips : Con := fun ds h P => ∃ (p : Addr) (w : Int) (rs : List Ride), ds = [.ref p] ∧ LineAt h p w rs ∧ P (.tup (rs.map tR)) h
theorem capacity_ok {h : TH} {p : Addr} {w : Int} {rs : List Ride} {P : TQ} (l : LineAt h p w rs) (q : P (.int w) h) : c_Line_capacity [.ref p] h P := ⟨p, w, rs, rfl, l, q⟩
theorem trips_ok {h : TH} {p : Addr} {w : Int} {rs : List Ride} {P : TQ} (l : LineAt h p w rs) (q : P (.tup (rs.map tR)) h) : c_Line_trips [.ref p] h P := ⟨p, w, rs, rfl, l, q⟩
def rd_Line_capacity : TrS := bRet (bFld "Line" "width" (bVar 0))
def rd_Line_trips : TrS := bRet (bFld "Line" "booked" (bVar 0))
theorem con_Line_capacity (ds : List D) (h : TH) (Q : TQ) (c : c_Line_capacity ds h Q) : rd_Line_capacity { nx := fun _ h' => less Q .non h', rt := less Q } (startT 1 ds) h := by
  obtain ⟨p, w, rs, rfl, ⟨q, e, _⟩, c⟩ := c
  simp [rd_Line_capacity, bRet, bRetN, bChain, bBin, bVar, bC, bNil, bCons, bTup, bLst, bDnew, bB, blQ, bUn, bAnd, bOr, bNot, bTru, truD, bAndV, bOrV, bNotV, bIf, iiD, addD, subD, fdivD, modD, powD, mulD, negD, ltD, leD, gtD, geD, eqG, eqD, neD, isN, isND, notND, inG, inD, notInD, inSeq, ixD, bNo, bPart, bSl, slD, bRev, bCall, bMeth, bMake, bFld, bProp, bBlt, lenD, absD, maxD, minD, divmodD, listD, tupleD, allD, anyD, isTyD, tyNm, tyIs, isOwnD, gN, gsNil, gsCons, gT, gS, setD, bNext, bSeq, bBreak, bCont, bNever, bExpr, bIfS, bAsg, bPar, bPar3, bSetF, bAug, iT, iL, iR1, iR2, iS, iEn, bFor, bYes, bLc, bMt, tyD, appendD, extendD, popD, joinD, bLstRg, rg1, rg2, bLstZip, bCallK, dictD, sortedD, keyOf, startT, toPy, toPys, pyOf, e, List.lookup]
  exact less_of c
theorem con_Line_trips (ds : List D) (h : TH) (Q : TQ) (c : c_Line_trips ds h Q) : rd_Line_trips { nx := fun _ h' => less Q .non h', rt := less Q } (startT 1 ds) h := by
  obtain ⟨p, w, rs, rfl, ⟨q, e, _⟩, c⟩ := c
  have n1 : (Str.ofString "booked" == Str.ofString "width") = false := by decide +kernel
  simp [rd_Line_trips, bRet, bRetN, bChain, bBin, bVar, bC, bNil, bCons, bTup, bLst, bDnew, bB, blQ, bUn, bAnd, bOr, bNot, bTru, truD, bAndV, bOrV, bNotV, bIf, iiD, addD, subD, fdivD, modD, powD, mulD, negD, ltD, leD, gtD, geD, eqG, eqD, neD, isN, isND, notND, inG, inD, notInD, inSeq, ixD, bNo, bPart, bSl, slD, bRev, bCall, bMeth, bMake, bFld, bProp, bBlt, lenD, absD, maxD, minD, divmodD, listD, tupleD, allD, anyD, isTyD, tyNm, tyIs, isOwnD, gN, gsNil, gsCons, gT, gS, setD, bNext, bSeq, bBreak, bCont, bNever, bExpr, bIfS, bAsg, bPar, bPar3, bSetF, bAug, iT, iL, iR1, iR2, iS, iEn, bFor, bYes, bLc, bMt, tyD, appendD, extendD, popD, joinD, bLstRg, rg1, rg2, bLstZip, bCallK, dictD, sortedD, keyOf, startT, toPy, toPys, pyOf, e, List.lookup, n1]
  exact less_of c
/-! ### loads -/
def covers (x : Int) (r : Ride) : Bool := decide (r.2.1 ≤ x) && decide (x < r.2.2)
def loadR (rs : List Ride) (x : Int) : Nat := (rs.filter (covers x)).length
def c_passes : Con := fun ds h P => match ds with
  | [.tup [.str _, .int s, .int e], .int x] => P (.bl (decide (s ≤ x) && decide (x < e))) h
  | _ => False
theorem passes_ok {r : Ride} {x : Int} {h : TH} {P : TQ} (q : P (.bl (covers x r)) h) : c_passes [tR r, .int x] h P := q
def rd_passes : TrS := bRet (bChain leD ltD (bBin ixD (bVar 0) (bC (.int 1))) (bVar 1) (bBin ixD (bVar 0) (bC (.int 2))))
theorem con_passes (ds : List D) (h : TH) (Q : TQ) (c : c_passes ds h Q) : rd_passes { nx := fun _ h' => less Q .non h', rt := less Q } (startT 2 ds) h := by
  unfold c_passes at c
  split at c
  · rename_i n s e x
    by_cases z : s ≤ x
    · simp [rd_passes, bRet, bRetN, bChain, bBin, bVar, bC, bNil, bCons, bTup, bLst, bDnew, bB, blQ, bUn, bAnd, bOr, bNot, bTru, truD, bAndV, bOrV, bNotV, bIf, iiD, addD, subD, fdivD, modD, powD, mulD, negD, ltD, leD, gtD, geD, eqG, eqD, neD, isN, isND, notND, inG, inD, notInD, inSeq, ixD, bNo, bPart, bSl, slD, bRev, bCall, bMeth, bMake, bFld, bProp, bBlt, lenD, absD, maxD, minD, divmodD, listD, tupleD, allD, anyD, isTyD, tyNm, tyIs, isOwnD, gN, gsNil, gsCons, gT, gS, setD, bNext, bSeq, bBreak, bCont, bNever, bExpr, bIfS, bAsg, bPar, bPar3, bSetF, bAug, iT, iL, iR1, iR2, iS, iEn, bFor, bYes, bLc, bMt, tyD, appendD, extendD, popD, joinD, bLstRg, rg1, rg2, bLstZip, bCallK, dictD, sortedD, keyOf, startT, toPy, toPys, pyOf, z]; simpa [z] using less_of c
    · simp [rd_passes, bRet, bRetN, bChain, bBin, bVar, bC, bNil, bCons, bTup, bLst, bDnew, bB, blQ, bUn, bAnd, bOr, bNot, bTru, truD, bAndV, bOrV, bNotV, bIf, iiD, addD, subD, fdivD, modD, powD, mulD, negD, ltD, leD, gtD, geD, eqG, eqD, neD, isN, isND, notND, inG, inD, notInD, inSeq, ixD, bNo, bPart, bSl, slD, bRev, bCall, bMeth, bMake, bFld, bProp, bBlt, lenD, absD, maxD, minD, divmodD, listD, tupleD, allD, anyD, isTyD, tyNm, tyIs, isOwnD, gN, gsNil, gsCons, gT, gS, setD, bNext, bSeq, bBreak, bCont, bNever, bExpr, bIfS, bAsg, bPar, bPar3, bSetF, bAug, iT, iL, iR1, iR2, iS, iEn, bFor, bYes, bLc, bMt, tyD, appendD, extendD, popD, joinD, bLstRg, rg1, rg2, bLstZip, bCallK, dictD, sortedD, keyOf, startT, toPy, toPys, pyOf, z]; simpa [z] using less_of c
  · exact c.elim
def c_load_of : Con := fun ds h P => ∃ (rs : List Ride) (x : Int), ds = [.tup (rs.map tR), .int x] ∧ rs.length ≤ 24 ∧ P (.int (loadR rs x)) h
theorem load_of_ok {rs : List Ride} {x : Int} {h : TH} {P : TQ} (l : rs.length ≤ 24) (q : P (.int (loadR rs x)) h) : c_load_of [.tup (rs.map tR), .int x] h P := ⟨rs, x, rfl, l, q⟩
def rd_load_of : TrS := bRet (bBlt lenD (bCons (bLc (iT (bVar 0)) (gN 2) (bTru (bCall c_passes [] (bCons (bVar 2) (bCons (bVar 1) (bNil))))) (bVar 2) [2]) (bNil)))
theorem con_load_of (ds : List D) (h : TH) (Q : TQ) (c : c_load_of ds h Q) : rd_load_of { nx := fun _ h' => less Q .non h', rt := less Q } (startT 3 ds) h := by
  obtain ⟨rs, x, rfl, hl, c⟩ := c
  simp [rd_load_of, bRet, bRetN, bChain, bBin, bVar, bC, bNil, bCons, bTup, bLst, bDnew, bB, blQ, bUn, bAnd, bOr, bNot, bTru, truD, bAndV, bOrV, bNotV, bIf, iiD, addD, subD, fdivD, modD, powD, mulD, negD, ltD, leD, gtD, geD, eqG, eqD, neD, isN, isND, notND, inG, inD, notInD, inSeq, ixD, bNo, bPart, bSl, slD, bRev, bCall, bMeth, bMake, bFld, bProp, bBlt, lenD, absD, maxD, minD, divmodD, listD, tupleD, allD, anyD, isTyD, tyNm, tyIs, isOwnD, gN, gsNil, gsCons, gT, gS, setD, bNext, bSeq, bBreak, bCont, bNever, bExpr, bIfS, bAsg, bPar, bPar3, bSetF, bAug, iT, iL, iR1, iR2, iS, iEn, bFor, bYes, bLc, bMt, tyD, appendD, extendD, popD, joinD, bLstRg, rg1, rg2, bLstZip, bCallK, dictD, sortedD, keyOf, startT, toPy, toPys, pyOf]
  intro p hp
  refine lc_filter h tR (covers x) tR rs hp (by omega) (fun _ => trivial) (fun r hr acc Kn kn => ?_) ?_
  · have kn := kn _ (Sub.refl _)
    simp only [lcItem, bRet, bRetN, bChain, bBin, bVar, bC, bNil, bCons, bTup, bLst, bDnew, bB, blQ, bUn, bAnd, bOr, bNot, bTru, truD, bAndV, bOrV, bNotV, bIf, iiD, addD, subD, fdivD, modD, powD, mulD, negD, ltD, leD, gtD, geD, eqG, eqD, neD, isN, isND, notND, inG, inD, notInD, inSeq, ixD, bNo, bPart, bSl, slD, bRev, bCall, bMeth, bMake, bFld, bProp, bBlt, lenD, absD, maxD, minD, divmodD, listD, tupleD, allD, anyD, isTyD, tyNm, tyIs, isOwnD, gN, gsNil, gsCons, gT, gS, setD, bNext, bSeq, bBreak, bCont, bNever, bExpr, bIfS, bAsg, bPar, bPar3, bSetF, bAug, iT, iL, iR1, iR2, iS, iEn, bFor, bYes, bLc, bMt, tyD, appendD, extendD, popD, joinD, bLstRg, rg1, rg2, bLstZip, bCallK, dictD, sortedD, keyOf, startT, toPy, toPys, pyOf, wipeT]
    refine passes_ok (r := r) ?_
    simp
    by_cases z : covers x r = true
    · simpa [z] using kn
    · simpa [z] using kn
  · simp
    exact less_sub (Sub.put hp) c
def c_Line_load : Con := fun ds h P => ∃ (p : Addr) (w : Int) (rs : List Ride) (x : Int), ds = [.ref p, .int x] ∧ LineAt h p w rs ∧ rs.length ≤ 24 ∧ 0 ≤ x ∧ P (.int (loadR rs x)) h
theorem load_ok {h : TH} {p : Addr} {w : Int} {rs : List Ride} {x : Int} {P : TQ} (l : LineAt h p w rs) (hl : rs.length ≤ 24) (hx : 0 ≤ x) (q : P (.int (loadR rs x)) h) : c_Line_load [.ref p, .int x] h P := ⟨p, w, rs, x, rfl, l, hl, hx, q⟩
def rd_Line_load : TrS := bSeq (bIfS (bNot (bTru (bCall c_is_from [] (bCons (bVar 1) (bCons (bC (.int 0)) (bNil)))))) (bNever) (bNext)) (bRet (bCall c_load_of [] (bCons (bFld "Line" "booked" (bVar 0)) (bCons (bVar 1) (bNil)))))
theorem con_Line_load (ds : List D) (h : TH) (Q : TQ) (c : c_Line_load ds h Q) : rd_Line_load { nx := fun _ h' => less Q .non h', rt := less Q } (startT 2 ds) h := by
  obtain ⟨p, w, rs, x, rfl, ⟨q, e, _⟩, hl, hx, c⟩ := c
  have n1 : (Str.ofString "booked" == Str.ofString "width") = false := by decide +kernel
  simp [rd_Line_load, bRet, bRetN, bChain, bBin, bVar, bC, bNil, bCons, bTup, bLst, bDnew, bB, blQ, bUn, bAnd, bOr, bNot, bTru, truD, bAndV, bOrV, bNotV, bIf, iiD, addD, subD, fdivD, modD, powD, mulD, negD, ltD, leD, gtD, geD, eqG, eqD, neD, isN, isND, notND, inG, inD, notInD, inSeq, ixD, bNo, bPart, bSl, slD, bRev, bCall, bMeth, bMake, bFld, bProp, bBlt, lenD, absD, maxD, minD, divmodD, listD, tupleD, allD, anyD, isTyD, tyNm, tyIs, isOwnD, gN, gsNil, gsCons, gT, gS, setD, bNext, bSeq, bBreak, bCont, bNever, bExpr, bIfS, bAsg, bPar, bPar3, bSetF, bAug, iT, iL, iR1, iR2, iS, iEn, bFor, bYes, bLc, bMt, tyD, appendD, extendD, popD, joinD, bLstRg, rg1, rg2, bLstZip, bCallK, dictD, sortedD, keyOf, startT, toPy, toPys, pyOf, c_is_from, hx, e, List.lookup, n1]
  exact load_of_ok hl (less_of c)
def c_check_line : Con := fun ds h P => ∃ (p : Addr) (w : Int) (rs : List Ride), ds = [.ref p] ∧ LineAt h p w rs ∧ P .non h
theorem check_line_ok {h : TH} {p : Addr} {w : Int} {rs : List Ride} {P : TQ} (l : LineAt h p w rs) (q : P .non h) : c_check_line [.ref p] h P := ⟨p, w, rs, rfl, l, q⟩
def rd_check_line : TrS := bIfS (bNot (bTru (bBlt (isOwnD "Line" []) (bCons (bVar 0) (bCons (bC (.glo "Line")) (bNil)))))) (bNever) (bNext)
theorem con_check_line (ds : List D) (h : TH) (Q : TQ) (c : c_check_line ds h Q) : rd_check_line { nx := fun _ h' => less Q .non h', rt := less Q } (startT 1 ds) h := by
  obtain ⟨p, w, rs, rfl, ⟨q, e, _⟩, c⟩ := c
  simp [rd_check_line, bRet, bRetN, bChain, bBin, bVar, bC, bNil, bCons, bTup, bLst, bDnew, bB, blQ, bUn, bAnd, bOr, bNot, bTru, truD, bAndV, bOrV, bNotV, bIf, iiD, addD, subD, fdivD, modD, powD, mulD, negD, ltD, leD, gtD, geD, eqG, eqD, neD, isN, isND, notND, inG, inD, notInD, inSeq, ixD, bNo, bPart, bSl, slD, bRev, bCall, bMeth, bMake, bFld, bProp, bBlt, lenD, absD, maxD, minD, divmodD, listD, tupleD, allD, anyD, isTyD, tyNm, tyIs, isOwnD, gN, gsNil, gsCons, gT, gS, setD, bNext, bSeq, bBreak, bCont, bNever, bExpr, bIfS, bAsg, bPar, bPar3, bSetF, bAug, iT, iL, iR1, iR2, iS, iEn, bFor, bYes, bLc, bMt, tyD, appendD, extendD, popD, joinD, bLstRg, rg1, rg2, bLstZip, bCallK, dictD, sortedD, keyOf, startT, toPy, toPys, pyOf, e]
  exact less_of c
end T
set_option Elab.async false
set_option linter.all false
set_option maxRecDepth 100000
set_option maxHeartbeats 1000000
namespace T
open PySem L2 PyProof.Rows
/-! ### no stretch is overfull -/
def NoOver (w : Int) (rs : List Ride) : Prop := ∀ r ∈ rs, (loadR rs r.2.1 : Int) ≤ w
theorem load_fresh : ¬Str.ofString "load" = Str.ofString "width" ∧ ¬Str.ofString "load" = Str.ofString "booked" ∧ ¬Str.ofString "load" = Str.ofString "rows" := by decide +kernel
def c_first_overfull : Con := fun ds h P => ∃ (p : Addr) (w : Int) (rs : List Ride), ds = [.ref p] ∧ LineAt h p w rs ∧ GoodRides rs ∧ NoOver w rs ∧ P .non h
theorem first_overfull_ok {h : TH} {p : Addr} {w : Int} {rs : List Ride} {P : TQ} (l : LineAt h p w rs) (g : GoodRides rs) (n : NoOver w rs) (q : P .non h) : c_first_overfull [.ref p] h P := ⟨p, w, rs, rfl, l, g, n, q⟩
theorem LineAt.ins {h : TH} {p : Addr} {w : Int} {rs : List Ride} (l : LineAt h p w rs) : ∃ q, h p = some (.ins "Line" [("width", .int w), ("booked", .tup (rs.map tR)), ("rows", .ref q)]) := let ⟨q, a, _⟩ := l; ⟨q, a⟩
theorem bProp_ok {h : TH} {p : Addr} {w : Int} {rs : List Ride} {c : Con} {te : TrE} {P : TQ} (l : LineAt h p w rs) (q : c [.ref p] h P) : (match (D.ref p) with
  | .ref p => (match h p with
    | some (.ins c' fs) => c' = "Line" ∧ c [.ref p] h P
    | _ => False)
  | _ => False) := by
  obtain ⟨z, e⟩ := l.ins
  simp [e]; exact q
def rd_first_overfull : TrS := bSeq (bAsg (bLc (iT (bProp "Line" c_Line_trips (bVar 0))) (gN 2) (bB (bBin gtD (bMeth "Line" "load" c_Line_load [] (bVar 0) (bCons (bBin ixD (bVar 2) (bC (.int 1))) (bNil))) (bProp "Line" c_Line_capacity (bVar 0)))) (bBin ixD (bVar 2) (bC (.int 1))) [2]) (gN 1)) (bRet (bIf (bTru (bVar 1)) (bBlt minD (bCons (bVar 1) (bNil))) (bC .non)))
theorem con_first_overfull (ds : List D) (h : TH) (Q : TQ) (c : c_first_overfull ds h Q) : rd_first_overfull { nx := fun _ h' => less Q .non h', rt := less Q } (startT 3 ds) h := by
  obtain ⟨p, w, rs, rfl, l, g, n, c⟩ := c
  obtain ⟨z, e⟩ := l.ins
  have hl := g.len
  simp [rd_first_overfull, bRet, bRetN, bChain, bBin, bVar, bC, bNil, bCons, bTup, bLst, bDnew, bB, blQ, bUn, bAnd, bOr, bNot, bTru, truD, bAndV, bOrV, bNotV, bIf, iiD, addD, subD, fdivD, modD, powD, mulD, negD, ltD, leD, gtD, geD, eqG, eqD, neD, isN, isND, notND, inG, inD, notInD, inSeq, ixD, bNo, bPart, bSl, slD, bRev, bCall, bMeth, bMake, bFld, bProp, bBlt, lenD, absD, maxD, minD, divmodD, listD, tupleD, allD, anyD, isTyD, tyNm, tyIs, isOwnD, gN, gsNil, gsCons, gT, gS, setD, bNext, bSeq, bBreak, bCont, bNever, bExpr, bIfS, bAsg, bPar, bPar3, bSetF, bAug, iT, iL, iR1, iR2, iS, iEn, bFor, bYes, bLc, bMt, tyD, appendD, extendD, popD, joinD, bLstRg, rg1, rg2, bLstZip, bCallK, dictD, sortedD, keyOf, startT, toPy, toPys, pyOf, e]
  refine trips_ok l ?_
  simp
  intro p2 hp2
  refine lc_filter h tR (fun _ => false) (fun _ => .non) rs hp2 (by omega) (fun _ => trivial) (fun r hr acc Kn kn => ?_) ?_
  · have kn := kn _ (Sub.refl _)
    have gr := g.each r hr
    have np : p ≠ p2 := fun z => by rw [z, hp2] at e; cases e
    simp [lcItem, bRet, bRetN, bChain, bBin, bVar, bC, bNil, bCons, bTup, bLst, bDnew, bB, blQ, bUn, bAnd, bOr, bNot, bTru, truD, bAndV, bOrV, bNotV, bIf, iiD, addD, subD, fdivD, modD, powD, mulD, negD, ltD, leD, gtD, geD, eqG, eqD, neD, isN, isND, notND, inG, inD, notInD, inSeq, ixD, bNo, bPart, bSl, slD, bRev, bCall, bMeth, bMake, bFld, bProp, bBlt, lenD, absD, maxD, minD, divmodD, listD, tupleD, allD, anyD, isTyD, tyNm, tyIs, isOwnD, gN, gsNil, gsCons, gT, gS, setD, bNext, bSeq, bBreak, bCont, bNever, bExpr, bIfS, bAsg, bPar, bPar3, bSetF, bAug, iT, iL, iR1, iR2, iS, iEn, bFor, bYes, bLc, bMt, tyD, appendD, extendD, popD, joinD, bLstRg, rg1, rg2, bLstZip, bCallK, dictD, sortedD, keyOf, startT, toPy, toPys, pyOf, wipeT, put_ne np, e]
    refine ⟨load_fresh, load_ok (l.sub (Sub.put hp2)) hl gr.s0 ?_⟩
    simp [put_ne np, e]
    refine capacity_ok (l.sub (Sub.put hp2)) ?_
    have := n r hr
    simp
    rw [if_neg (by omega)]
    exact kn
  · simp
    exact less_sub (Sub.put hp2) c
/-! ### the only one that may follow -/
def near (e first : Int) (o : Ride) : Bool := (decide (e ≤ o.2.1) && decide (o.2.1 ≤ first)) || (decide (e ≤ o.2.2) && decide (o.2.2 ≤ first))
def startsOf (rs : List Ride) (t : Ride) : List Int := ((rs.filter fun o => !decide (o = t)).filter fun o => decide (t.2.2 ≤ o.2.1)).map (·.2.1)
def nearOf (rs : List Ride) (t : Ride) (first : Int) : List Str := ((rs.filter fun o => !decide (o = t)).filter (near t.2.2 first)).map (·.1)
def follower (w : Int) (rs : List Ride) (t : Ride) : Option Str :=
  if ((loadR rs (t.2.2 - 1) : Int) < w) then none else match (startsOf rs t).min? with
  | none => none
  | some first => match nearOf rs t first with
    | [x] => some x
    | _ => none
def optD : Option Str → D
  | some x => .str x
  | none => .non
def c_only_follower : Con := fun ds h P => ∃ (p : Addr) (w : Int) (rs : List Ride) (t : Ride), ds = [.ref p, tR t] ∧ LineAt h p w rs ∧ GoodRides rs ∧ t ∈ rs ∧ P (optD (follower w rs t)) h
theorem only_follower_ok {h : TH} {p : Addr} {w : Int} {rs : List Ride} {t : Ride} {P : TQ} (l : LineAt h p w rs) (g : GoodRides rs) (ht : t ∈ rs) (q : P (optD (follower w rs t)) h) : c_only_follower [.ref p, tR t] h P := ⟨p, w, rs, t, rfl, l, g, ht, q⟩
theorem strOk_good {w : Str} (g : GoodName w) : PyData.strOk w = true := by
  have k : ∀ c ∈ letters.cps.toList, c < 0x110000 := by decide +kernel
  unfold PyData.strOk
  rw [← Array.all_toList, List.all_eq_true]
  exact fun c hc => decide_eq_true (k c (g.2.2 c hc))
theorem shaped_tR {a : Ride} (g : GoodName a.1) : SeqAt.shaped (.tuple [.str a.1, .int a.2.1, .int a.2.2]) = true := by simp [SeqAt.shaped, PyData.canLay0, PyData.canLayAll0, PyData.depth, PyData.depthAll, strOk_good g]
theorem eqv_tR (a b : Ride) : PyData.eqv (.tuple [.str a.1, .int a.2.1, .int a.2.2]) (.tuple [.str b.1, .int b.2.1, .int b.2.2]) = decide (a = b) := by
  obtain ⟨a1, a2, a3⟩ := a
  obtain ⟨b1, b2, b3⟩ := b
  by_cases h1 : a1 = b1 <;> by_cases h2 : a2 = b2 <;> by_cases h3 : a3 = b3 <;> simp [PyData.eqv, PyData.eqvAll, h1, h2, h3]
theorem ne_tR {a b : Ride} {h : TH} {P : TQ} (ga : GoodName a.1) (gb : GoodName b.1) (q : P (.bl (!decide (a = b))) h) : neD (tR a) (tR b) h P := by
  show eqG (!·) (tR a) (tR b) h P
  simp only [eqG, pyOf, toPy_tR]
  refine ⟨shaped_tR ga, shaped_tR gb, ?_⟩
  rw [eqv_tR]; exact q
def rd_only_follower : TrS := bSeq (bAsg (bTup (bCons (bLc (iT (bProp "Line" c_Line_trips (bVar 0))) (gN 7) (bB (bBin neD (bVar 7) (bVar 1))) (bVar 7) [7]) (bCons (bBin ixD (bVar 1) (bC (.int 2))) (bNil)))) (gT 2 (gsCons (gN 5) (gsCons (gN 6) (gsNil))))) (bSeq (bAsg (bLc (iL (bVar 5)) (gN 7) (bB (bBin geD (bBin ixD (bVar 7) (bC (.int 1))) (bVar 6))) (bBin ixD (bVar 7) (bC (.int 1))) [7]) (gN 2)) (bSeq (bIfS (bOr (bB (bBin ltD (bMeth "Line" "load" c_Line_load [] (bVar 0) (bCons (bBin subD (bVar 6) (bC (.int 1))) (bNil))) (bProp "Line" c_Line_capacity (bVar 0)))) (bNot (bTru (bVar 2)))) (bRet (bC .non)) (bNext)) (bSeq (bAsg (bBlt minD (bCons (bVar 2) (bNil))) (gN 3)) (bSeq (bAsg (bLc (iL (bVar 5)) (gT 3 (gsCons (gN 8) (gsCons (gN 9) (gsCons (gN 10) (gsNil))))) (bOr (bB (bChain leD leD (bVar 6) (bVar 9) (bVar 3))) (bB (bChain leD leD (bVar 6) (bVar 10) (bVar 3)))) (bVar 8) [8, 9, 10]) (gN 4)) (bRet (bIf (bB (bBin eqD (bBlt lenD (bCons (bVar 4) (bNil))) (bC (.int 1)))) (bBin ixD (bVar 4) (bC (.int 0))) (bC .non)))))))
theorem con_only_follower (ds : List D) (h : TH) (Q : TQ) (c : c_only_follower ds h Q) : rd_only_follower { nx := fun _ h' => less Q .non h', rt := less Q } (startT 11 ds) h := by
  obtain ⟨p, w, rs, t, rfl, l, g, ht, c⟩ := c
  obtain ⟨z, e⟩ := l.ins
  have hl := g.len
  have gt := g.each t ht
  simp only [rd_only_follower, bSeq, bAsg, bTup, bCons, bLc, iT, bProp, bVar, startT]
  simp [e]
  refine trips_ok l ?_
  simp
  intro p2 hp2
  refine lc_filter h tR (fun o => !decide (o = t)) tR rs hp2 (by omega) (fun _ => trivial) (fun r hr acc Kn kn => ?_) ?_
  · have kn := kn _ (Sub.refl _)
    simp only [lcItem, bB, bBin, bVar, gN, wipeT]
    simp
    refine ne_tR (g.each r hr).nm gt.nm ?_
    simp [blQ]
    by_cases z : r = t
    · simpa [z] using kn
    · simpa [z] using kn
  · have hlo : (rs.filter fun o => !decide (o = t)).length ≤ 24 := Nat.le_trans (List.length_filter_le _ _) hl
    have hsub : ∀ o ∈ rs.filter (fun o => !decide (o = t)), o ∈ rs := fun o m => (List.mem_filter.mp m).1
    have cf : follower w rs t = (if ((loadR rs (t.2.2 - 1) : Int) < w) then none else match (((rs.filter fun o => !decide (o = t)).filter fun o => decide (t.2.2 ≤ o.2.1)).map (·.2.1)).min? with
      | none => none
      | some first => match ((rs.filter fun o => !decide (o = t)).filter (near t.2.2 first)).map (·.1) with
        | [x] => some x
        | _ => none) := rfl
    generalize (rs.filter fun o => !decide (o = t)) = os at hlo hsub cf ⊢
    have s2 : Sub h (put h p2 (.lst (os.map tR))) := Sub.put hp2
    have l2 := l.sub s2
    have e2 := s2 _ _ e
    have o2 : put h p2 (.lst (os.map tR)) p2 = some (.lst (os.map tR)) := put_same
    have c2 : less Q (optD (follower w rs t)) (put h p2 (.lst (os.map tR))) := less_sub s2 c
    generalize put h p2 (.lst (os.map tR)) = h2 at s2 l2 e2 o2 c2 ⊢
    simp [bRet, bRetN, bChain, bBin, bVar, bC, bNil, bCons, bTup, bLst, bDnew, bB, blQ, bUn, bAnd, bOr, bNot, bTru, truD, bAndV, bOrV, bNotV, bIf, iiD, addD, subD, fdivD, modD, powD, mulD, negD, ltD, leD, gtD, geD, eqG, eqD, neD, isN, isND, notND, inG, inD, notInD, inSeq, ixD, bNo, bPart, bSl, slD, bRev, bCall, bMeth, bMake, bFld, bProp, bBlt, lenD, absD, maxD, minD, divmodD, listD, tupleD, allD, anyD, isTyD, tyNm, tyIs, isOwnD, gN, gsNil, gsCons, gT, gS, setD, bNext, bSeq, bBreak, bCont, bNever, bExpr, bIfS, bAsg, bPar, bPar3, bSetF, bAug, iT, iL, iR1, iR2, iS, iEn, bFor, bYes, bLc, bMt, tyD, appendD, extendD, popD, joinD, bLstRg, rg1, rg2, bLstZip, bCallK, dictD, sortedD, keyOf, startT, toPy, toPys, pyOf, o2]
    intro p3 hp3
    have n3 : p2 ≠ p3 := fun z => by rw [z, hp3] at o2; cases o2
    refine lc_filter h2 tR (fun o => decide (t.2.2 ≤ o.2.1)) (fun o => .int o.2.1) os hp3 (by omega) (fun _ => by rw [put_ne n3]; exact o2) (fun r hr acc Kn kn => ?_) ?_
    · have kn := kn _ (Sub.refl _)
      simp [lcItem, bRet, bRetN, bChain, bBin, bVar, bC, bNil, bCons, bTup, bLst, bDnew, bB, blQ, bUn, bAnd, bOr, bNot, bTru, truD, bAndV, bOrV, bNotV, bIf, iiD, addD, subD, fdivD, modD, powD, mulD, negD, ltD, leD, gtD, geD, eqG, eqD, neD, isN, isND, notND, inG, inD, notInD, inSeq, ixD, bNo, bPart, bSl, slD, bRev, bCall, bMeth, bMake, bFld, bProp, bBlt, lenD, absD, maxD, minD, divmodD, listD, tupleD, allD, anyD, isTyD, tyNm, tyIs, isOwnD, gN, gsNil, gsCons, gT, gS, setD, bNext, bSeq, bBreak, bCont, bNever, bExpr, bIfS, bAsg, bPar, bPar3, bSetF, bAug, iT, iL, iR1, iR2, iS, iEn, bFor, bYes, bLc, bMt, tyD, appendD, extendD, popD, joinD, bLstRg, rg1, rg2, bLstZip, bCallK, dictD, sortedD, keyOf, startT, toPy, toPys, pyOf, wipeT]
      by_cases z : t.2.2 ≤ r.2.1
      · simpa [z] using kn
      · simpa [z] using kn
    · have s3 : Sub h2 (put h2 p3 (.lst ((os.filter fun o => decide (t.2.2 ≤ o.2.1)).map fun o => .int o.2.1))) := Sub.put hp3
      have l3 := l2.sub s3
      have e3 := s3 _ _ e2
      have o3 := s3 _ _ o2
      have q3 : put h2 p3 (.lst ((os.filter fun o => decide (t.2.2 ≤ o.2.1)).map fun o => .int o.2.1)) p3 = some (.lst ((os.filter fun o => decide (t.2.2 ≤ o.2.1)).map fun o => D.int o.2.1)) := put_same
      obtain ⟨h', s', c'⟩ := c2
      have c3 : less Q (optD (follower w rs t)) (put h2 p3 (.lst ((os.filter fun o => decide (t.2.2 ≤ o.2.1)).map fun o => .int o.2.1))) := ⟨h', s'.trans s3, c'⟩
      have em : ((os.filter fun o => decide (t.2.2 ≤ o.2.1)).map fun o => D.int o.2.1) = ((os.filter fun o => decide (t.2.2 ≤ o.2.1)).map (·.2.1)).map D.int := by rw [List.map_map]; rfl
      rw [em] at l3 e3 o3 q3 c3 ⊢
      generalize ((os.filter fun o => decide (t.2.2 ≤ o.2.1)).map (·.2.1)) = st at cf l3 e3 o3 q3 c3 ⊢
      generalize put h2 p3 (.lst (st.map D.int)) = h3 at l3 e3 o3 q3 c3 ⊢
      have ge : 0 ≤ t.2.2 - 1 := by have := gt.s0; have := gt.lt; omega
      simp [bRet, bRetN, bChain, bBin, bVar, bC, bNil, bCons, bTup, bLst, bDnew, bB, blQ, bUn, bAnd, bOr, bNot, bTru, truD, bAndV, bOrV, bNotV, bIf, iiD, addD, subD, fdivD, modD, powD, mulD, negD, ltD, leD, gtD, geD, eqG, eqD, neD, isN, isND, notND, inG, inD, notInD, inSeq, ixD, bNo, bPart, bSl, slD, bRev, bCall, bMeth, bMake, bFld, bProp, bBlt, lenD, absD, maxD, minD, divmodD, listD, tupleD, allD, anyD, isTyD, tyNm, tyIs, isOwnD, gN, gsNil, gsCons, gT, gS, setD, bNext, bSeq, bBreak, bCont, bNever, bExpr, bIfS, bAsg, bPar, bPar3, bSetF, bAug, iT, iL, iR1, iR2, iS, iEn, bFor, bYes, bLc, bMt, tyD, appendD, extendD, popD, joinD, bLstRg, rg1, rg2, bLstZip, bCallK, dictD, sortedD, keyOf, startT, toPy, toPys, pyOf, e3]
      refine ⟨?_, load_ok l3 hl ge ?_⟩
      · rintro a b (⟨rfl, _⟩ | ⟨rfl, _⟩ | ⟨rfl, _⟩) <;> decide +kernel
      simp [e3]
      refine capacity_ok l3 ?_
      simp [q3]
      by_cases z1 : (loadR rs (t.2.2 - 1) : Int) < w
      · rw [cf, if_pos z1] at c3
        rw [if_pos z1]; exact c3
      · rw [cf, if_neg z1] at c3
        rw [if_neg z1]
        cases es : st.min? with
        | none =>
          have : st = [] := List.min?_eq_none_iff.mp es
          subst this
          rw [es] at c3
          simp
          exact c3
        | some first =>
          have ne : st ≠ [] := fun z => by rw [z] at es; cases es
          rw [es] at c3
          dsimp only at c3
          rw [if_neg ne]
          rw [intsOf_map]
          simp [es, o3]
          intro p4 hp4
          have n4 : p2 ≠ p4 := fun z => by rw [z, hp4] at o3; cases o3
          refine lc_filter h3 tR (near t.2.2 first) (fun o => .str o.1) os hp4 (by omega) (fun _ => by rw [put_ne n4]; exact o3) (fun r hr acc Kn kn => ?_) ?_
          · have kn := kn _ (Sub.refl _)
            simp [lcItem, bRet, bRetN, bChain, bBin, bVar, bC, bNil, bCons, bTup, bLst, bDnew, bB, blQ, bUn, bAnd, bOr, bNot, bTru, truD, bAndV, bOrV, bNotV, bIf, iiD, addD, subD, fdivD, modD, powD, mulD, negD, ltD, leD, gtD, geD, eqG, eqD, neD, isN, isND, notND, inG, inD, notInD, inSeq, ixD, bNo, bPart, bSl, slD, bRev, bCall, bMeth, bMake, bFld, bProp, bBlt, lenD, absD, maxD, minD, divmodD, listD, tupleD, allD, anyD, isTyD, tyNm, tyIs, isOwnD, gN, gsNil, gsCons, gT, gS, setD, bNext, bSeq, bBreak, bCont, bNever, bExpr, bIfS, bAsg, bPar, bPar3, bSetF, bAug, iT, iL, iR1, iR2, iS, iEn, bFor, bYes, bLc, bMt, tyD, appendD, extendD, popD, joinD, bLstRg, rg1, rg2, bLstZip, bCallK, dictD, sortedD, keyOf, startT, toPy, toPys, pyOf, wipeT]
            unfold near at kn
            by_cases a1 : t.2.2 ≤ r.2.1 <;> by_cases a2 : r.2.1 ≤ first <;> by_cases a3 : t.2.2 ≤ r.2.2 <;> by_cases a4 : r.2.2 ≤ first <;> simp [a1, a2, a3, a4] at kn ⊢ <;> exact kn
          · have em : ((os.filter (near t.2.2 first)).map fun o => D.str o.1) = ((os.filter (near t.2.2 first)).map (·.1)).map D.str := by rw [List.map_map]; rfl
            rw [em]
            obtain ⟨h', s', c'⟩ := c3
            generalize ((os.filter (near t.2.2 first)).map (·.1)) = ns at c' ⊢
            have s4 : Sub h' (put h3 p4 (.lst (ns.map D.str))) := s'.trans (Sub.put hp4)
            simp
            match ns, c' with
            | [], c' => exact ⟨h', s4, c'⟩
            | [x], c' => simp; exact ⟨h', s4, c'⟩
            | x :: y :: r, c' => simp; rw [if_neg (by omega)]; exact ⟨h', s4, c'⟩
/-! ### always_follows -/
def alwaysF (w : Int) (rs : List Ride) : List (Str × Str) := rs.filterMap fun t => (follower w rs t).map fun u => (t.1, u)
def c_always_follows : Con := fun ds h P => ∃ (p : Addr) (w : Int) (rs : List Ride), ds = [.ref p] ∧ LineAt h p w rs ∧ GoodRides rs ∧ NoOver w rs ∧ P (.tup ((alwaysF w rs).map tP)) h
theorem always_follows_ok {h : TH} {p : Addr} {w : Int} {rs : List Ride} {P : TQ} (l : LineAt h p w rs) (g : GoodRides rs) (n : NoOver w rs) (q : P (.tup ((alwaysF w rs).map tP)) h) : c_always_follows [.ref p] h P := ⟨p, w, rs, rfl, l, g, n, q⟩
def rd_always_follows : TrS := bSeq (bExpr (bCall c_check_line [] (bCons (bVar 0) (bNil)))) (bSeq (bAsg (bCall c_first_overfull [] (bCons (bVar 0) (bNil))) (gN 1)) (bSeq (bIfS (bB (bBin notND (bVar 1) (bC .non))) (bNever) (bNext)) (bSeq (bAsg (bLc (iT (bProp "Line" c_Line_trips (bVar 0))) (gN 3) (bYes) (bTup (bCons (bBin ixD (bVar 3) (bC (.int 0))) (bCons (bCall c_only_follower [] (bCons (bVar 0) (bCons (bVar 3) (bNil)))) (bNil)))) [3]) (gN 2)) (bRet (bBlt tupleD (bCons (bLc (iL (bVar 2)) (gT 2 (gsCons (gN 4) (gsCons (gN 5) (gsNil)))) (bB (bBin notND (bVar 5) (bC .non))) (bTup (bCons (bVar 4) (bCons (bVar 5) (bNil)))) [4, 5]) (bNil)))))))
theorem con_always_follows (ds : List D) (h : TH) (Q : TQ) (c : c_always_follows ds h Q) : rd_always_follows { nx := fun _ h' => less Q .non h', rt := less Q } (startT 6 ds) h := by
  obtain ⟨p, w, rs, rfl, l, g, n, c⟩ := c
  obtain ⟨z, e⟩ := l.ins
  have hl := g.len
  simp [rd_always_follows, bRet, bRetN, bChain, bBin, bVar, bC, bNil, bCons, bTup, bLst, bDnew, bB, blQ, bUn, bAnd, bOr, bNot, bTru, truD, bAndV, bOrV, bNotV, bIf, iiD, addD, subD, fdivD, modD, powD, mulD, negD, ltD, leD, gtD, geD, eqG, eqD, neD, isN, isND, notND, inG, inD, notInD, inSeq, ixD, bNo, bPart, bSl, slD, bRev, bCall, bMeth, bMake, bFld, bProp, bBlt, lenD, absD, maxD, minD, divmodD, listD, tupleD, allD, anyD, isTyD, tyNm, tyIs, isOwnD, gN, gsNil, gsCons, gT, gS, setD, bNext, bSeq, bBreak, bCont, bNever, bExpr, bIfS, bAsg, bPar, bPar3, bSetF, bAug, iT, iL, iR1, iR2, iS, iEn, bFor, bYes, bLc, bMt, tyD, appendD, extendD, popD, joinD, bLstRg, rg1, rg2, bLstZip, bCallK, dictD, sortedD, keyOf, startT, toPy, toPys, pyOf]
  refine check_line_ok l ?_
  refine first_overfull_ok l g n ?_
  simp [isN, e]
  refine trips_ok l ?_
  simp
  intro p2 hp2
  refine lc_map h tR (fun t => .tup [.str t.1, optD (follower w rs t)]) rs hp2 (by omega) (fun _ => trivial) (fun r hr acc Kn kn => ?_) ?_
  · simp [lcItem, bRet, bRetN, bChain, bBin, bVar, bC, bNil, bCons, bTup, bLst, bDnew, bB, blQ, bUn, bAnd, bOr, bNot, bTru, truD, bAndV, bOrV, bNotV, bIf, iiD, addD, subD, fdivD, modD, powD, mulD, negD, ltD, leD, gtD, geD, eqG, eqD, neD, isN, isND, notND, inG, inD, notInD, inSeq, ixD, bNo, bPart, bSl, slD, bRev, bCall, bMeth, bMake, bFld, bProp, bBlt, lenD, absD, maxD, minD, divmodD, listD, tupleD, allD, anyD, isTyD, tyNm, tyIs, isOwnD, gN, gsNil, gsCons, gT, gS, setD, bNext, bSeq, bBreak, bCont, bNever, bExpr, bIfS, bAsg, bPar, bPar3, bSetF, bAug, iT, iL, iR1, iR2, iS, iEn, bFor, bYes, bLc, bMt, tyD, appendD, extendD, popD, joinD, bLstRg, rg1, rg2, bLstZip, bCallK, dictD, sortedD, keyOf, startT, toPy, toPys, pyOf, wipeT]
    refine only_follower_ok (l.sub (Sub.put hp2)) g hr ?_
    exact kn
  · try simp
    intro p3 hp3
    refine lc_filter (put h p2 _) (fun t : Ride => .tup [.str t.1, optD (follower w rs t)]) (fun t => (follower w rs t).isSome) (fun t => .tup [.str t.1, optD (follower w rs t)]) rs hp3 (by omega) (fun _ => put_off put_same hp3) (fun r hr acc Kn kn => ?_) ?_
    · have kn := kn _ (Sub.refl _)
      simp [lcItem, bRet, bRetN, bChain, bBin, bVar, bC, bNil, bCons, bTup, bLst, bDnew, bB, blQ, bUn, bAnd, bOr, bNot, bTru, truD, bAndV, bOrV, bNotV, bIf, iiD, addD, subD, fdivD, modD, powD, mulD, negD, ltD, leD, gtD, geD, eqG, eqD, neD, isN, isND, notND, inG, inD, notInD, inSeq, ixD, bNo, bPart, bSl, slD, bRev, bCall, bMeth, bMake, bFld, bProp, bBlt, lenD, absD, maxD, minD, divmodD, listD, tupleD, allD, anyD, isTyD, tyNm, tyIs, isOwnD, gN, gsNil, gsCons, gT, gS, setD, bNext, bSeq, bBreak, bCont, bNever, bExpr, bIfS, bAsg, bPar, bPar3, bSetF, bAug, iT, iL, iR1, iR2, iS, iEn, bFor, bYes, bLc, bMt, tyD, appendD, extendD, popD, joinD, bLstRg, rg1, rg2, bLstZip, bCallK, dictD, sortedD, keyOf, startT, toPy, toPys, pyOf, wipeT]
      cases q : follower w rs r with
      | none => simpa [q, optD, isN] using kn
      | some x => simpa [q, optD, isN] using kn
    · have e2 : ((rs.filter fun t => (follower w rs t).isSome).map fun t => D.tup [.str t.1, optD (follower w rs t)]) = (alwaysF w rs).map tP := by
        unfold alwaysF
        generalize follower w rs = f
        clear hp3 c g n l hl e
        induction rs with
        | nil => rfl
        | cons t r ih =>
          cases q : f t with
          | none => simpa [q] using ih
          | some x =>
            have e1 : ((t :: r).filter fun t => (f t).isSome) = t :: r.filter fun t => (f t).isSome := List.filter_cons_of_pos (by rw [q]; rfl)
            have e2 : ((t :: r).filterMap fun t => (f t).map fun u => (t.1, u)) = (t.1, x) :: r.filterMap fun t => (f t).map fun u => (t.1, u) := by rw [List.filterMap_cons, q]; rfl
            rw [e1, e2, List.map_cons, List.map_cons, ih, q]; rfl
      rw [e2]
      simp only [put_at]
      exact less_sub ((Sub.put hp2).trans (Sub.put hp3)) c
end T
set_option Elab.async false
set_option linter.all false
set_option maxRecDepth 100000
set_option maxHeartbeats 1000000
namespace T
open PySem L2 PyProof.Rows
/-! ### draws -/
abbrev pl (a b c : Int) : O := .lst [.int a, .int b, .int c]
def InM (a : Int) : Prop := 0 ≤ a ∧ a < 1000000007
theorem InM.mod (i : Int) : InM (i % 1000000007) := ⟨Int.emod_nonneg _ (by decide), Int.emod_lt_of_pos _ (by decide)⟩
theorem mulB_l {i j : Int} (h0 : -(2 ^ 64) < i) (h1 : i < 2 ^ 64) : MulBig i j := .inl (.inl ⟨h0, h1⟩)
theorem mulB_r {i j : Int} (h0 : -(2 ^ 64) < j) (h1 : j < 2 ^ 64) : MulBig i j := .inl (.inr ⟨h0, h1⟩)
theorem InM.lt {a : Int} (h : InM a) : -(2 ^ 64) < a ∧ a < 2 ^ 64 := by obtain ⟨h1, h2⟩ := h; constructor <;> omega
def c_law_cell : Con := fun ds h P => match ds with
  | [.scr _, .int k] => 0 ≤ k ∧ k ≤ 100 ∧ ∀ i : Int, P (.int i) h
  | _ => False
def rd_law_cell : TrS := bSeq (bIfS (bB (bBin ltD (bVar 1) (bBlt lenD (bCons (bVar 0) (bNil))))) (bRet (bBin ixD (bVar 0) (bVar 1))) (bNext)) (bSeq (bAsg (bBin modD (bBin mulD (bC (.int 50021)) (bBin addD (bBin addD (bBin mulD (bVar 1) (bVar 1)) (bBin mulD (bC (.int 7)) (bVar 1))) (bC (.int 3)))) (bC (.int 1000000007))) (gN 2)) (bSeq (bFor (iL (bSl (bVar 0) (bNo) (bPart (bC (.int 3))))) (gN 3) (bAsg (bBin modD (bBin addD (bBin mulD (bVar 2) (bC (.int 30011))) (bVar 3)) (bC (.int 1000000007))) (gN 2))) (bRet (bVar 2))))
theorem con_law_cell (ds : List D) (h : TH) (Q : TQ) (c : c_law_cell ds h Q) : rd_law_cell { nx := fun _ h' => less Q .non h', rt := less Q } (startT 4 ds) h := by
  unfold c_law_cell at c
  split at c
  · rename_i ns k
    obtain ⟨k0, k1, c⟩ := c
    have b1 : MulBig k k := mulB_l (by omega) (by omega)
    have b2 : ∀ j, MulBig 7 j := fun j => mulB_l (by decide) (by decide)
    have b3 : ∀ j, MulBig 50021 j := fun j => mulB_l (by decide) (by decide)
    have b4 : ∀ j, MulBig j 30011 := fun j => mulB_r (by decide) (by decide)
    simp [rd_law_cell, bRet, bRetN, bChain, bBin, bVar, bC, bNil, bCons, bTup, bLst, bDnew, bB, blQ, bUn, bAnd, bOr, bNot, bTru, truD, bAndV, bOrV, bNotV, bIf, iiD, addD, subD, fdivD, modD, powD, mulD, negD, ltD, leD, gtD, geD, eqG, eqD, neD, isN, isND, notND, inG, inD, notInD, inSeq, ixD, bNo, bPart, bSl, slD, bRev, bCall, bMeth, bMake, bFld, bProp, bBlt, lenD, absD, maxD, minD, divmodD, listD, tupleD, allD, anyD, isTyD, tyNm, tyIs, isOwnD, gN, gsNil, gsCons, gT, gS, setD, bNext, bSeq, bBreak, bCont, bNever, bExpr, bIfS, bAsg, bPar, bPar3, bSetF, bAug, iT, iL, iR1, iR2, iS, iEn, bFor, bYes, bLc, bMt, tyD, appendD, extendD, popD, joinD, bLstRg, rg1, rg2, bLstZip, bCallK, dictD, sortedD, keyOf, startT, toPy, toPys, pyOf, b1, b2, b3]
    by_cases z : k < ns.length
    · rw [if_pos z]
      obtain ⟨i, _, e⟩ := atI_of (xs := ns) k0 z
      rw [e]
      exact less_of (c i)
    · rw [if_neg z]
      intro n hn
      refine loop_inv _ (fun i ds' h' => h' = put h n (.lst ((cutT ns none (some 3)).map D.int)) ∧ ∃ st b, ds' = [some (.scr ns), some (.int k), some (.int st), b]) ⟨rfl, _, _, rfl⟩ (fun i ds' h' _ q => by rw [q.1]; exact put_same) (fun i x ds' h' Kn e q kn => ?_) (fun ds' h' q => ?_)
      · obtain ⟨rfl, st, b, rfl⟩ := q
        obtain ⟨y, _, rfl⟩ := List.mem_map.mp (List.mem_of_getElem? e)
        simp [bRet, bRetN, bChain, bBin, bVar, bC, bNil, bCons, bTup, bLst, bDnew, bB, blQ, bUn, bAnd, bOr, bNot, bTru, truD, bAndV, bOrV, bNotV, bIf, iiD, addD, subD, fdivD, modD, powD, mulD, negD, ltD, leD, gtD, geD, eqG, eqD, neD, isN, isND, notND, inG, inD, notInD, inSeq, ixD, bNo, bPart, bSl, slD, bRev, bCall, bMeth, bMake, bFld, bProp, bBlt, lenD, absD, maxD, minD, divmodD, listD, tupleD, allD, anyD, isTyD, tyNm, tyIs, isOwnD, gN, gsNil, gsCons, gT, gS, setD, bNext, bSeq, bBreak, bCont, bNever, bExpr, bIfS, bAsg, bPar, bPar3, bSetF, bAug, iT, iL, iR1, iR2, iS, iEn, bFor, bYes, bLc, bMt, tyD, appendD, extendD, popD, joinD, bLstRg, rg1, rg2, bLstZip, bCallK, dictD, sortedD, keyOf, startT, toPy, toPys, pyOf, b4]
        exact kn _ _ ⟨rfl, _, _, rfl⟩
      · obtain ⟨rfl, st, b, rfl⟩ := q
        simp
        exact less_sub (Sub.put hn) (c _)
  · exact c.elim
def c_law_pool : Con := fun ds h P => match ds with
  | [.int _] => ∀ p a b, h p = none → InM a → P (.ref p) (put h p (pl a b 0))
  | _ => False
def rd_law_pool : TrS := bSeq (bAsg (bC (.int 0)) (gN 1)) (bSeq (bIfS (bOr (bB (bBin ltD (bVar 0) (bC (.int 0)))) (bB (bBin geD (bVar 0) (bBin powD (bC (.int 10)) (bC (.int 18)))))) (bAsg (bBlt absD (bCons (bVar 0) (bNil))) (gN 1)) (bNext)) (bRet (bLst (bCons (bBin modD (bVar 0) (bC (.int 1000000007))) (bCons (bVar 1) (bCons (bC (.int 0)) (bNil)))))))
theorem con_law_pool (ds : List D) (h : TH) (Q : TQ) (c : c_law_pool ds h Q) : rd_law_pool { nx := fun _ h' => less Q .non h', rt := less Q } (startT 2 ds) h := by
  unfold c_law_pool at c
  split at c
  · rename_i i
    have cp : CPow 10 18 := by unfold CPow; decide
    simp [rd_law_pool, bRet, bRetN, bChain, bBin, bVar, bC, bNil, bCons, bTup, bLst, bDnew, bB, blQ, bUn, bAnd, bOr, bNot, bTru, truD, bAndV, bOrV, bNotV, bIf, iiD, addD, subD, fdivD, modD, powD, mulD, negD, ltD, leD, gtD, geD, eqG, eqD, neD, isN, isND, notND, inG, inD, notInD, inSeq, ixD, bNo, bPart, bSl, slD, bRev, bCall, bMeth, bMake, bFld, bProp, bBlt, lenD, absD, maxD, minD, divmodD, listD, tupleD, allD, anyD, isTyD, tyNm, tyIs, isOwnD, gN, gsNil, gsCons, gT, gS, setD, bNext, bSeq, bBreak, bCont, bNever, bExpr, bIfS, bAsg, bPar, bPar3, bSetF, bAug, iT, iL, iR1, iR2, iS, iEn, bFor, bYes, bLc, bMt, tyD, appendD, extendD, popD, joinD, bLstRg, rg1, rg2, bLstZip, bCallK, dictD, sortedD, keyOf, startT, toPy, toPys, pyOf, cp]
    by_cases z : i < 0
    · simp [z]
      exact fun p hp => less_of (c p _ _ hp (InM.mod i))
    · simp [z]
      split
      · exact fun p hp => less_of (c p _ _ hp (InM.mod i))
      · exact fun p hp => less_of (c p _ _ hp (InM.mod i))
  · exact c.elim
/-- what a draw leaves: some number below m, some pool -/
def drawn (p : Addr) (m : Int) (h : TH) (P : Int → TH → Prop) : Prop := ∀ r a b c, 0 ≤ r → r < m → InM a → P r (put h p (pl a b c))
def c_law_draw : Con := fun ds h P => ∃ (p : Addr) (m a b c : Int), ds = [.ref p, .int m] ∧ h p = some (pl a b c) ∧ InM a ∧ 0 < m ∧ m < 1073741824 ∧ drawn p m h fun r h' => P (.int r) h'
theorem draw_ok {p : Addr} {m a b c : Int} {h : TH} {P : TQ} (e : h p = some (pl a b c)) (ia : InM a) (m0 : 0 < m) (m1 : m < 1073741824) (q : ∀ r a b c, 0 ≤ r → r < m → InM a → P (.int r) (put h p (pl a b c))) : c_law_draw [.ref p, .int m] h P := ⟨p, m, a, b, c, rfl, e, ia, m0, m1, q⟩
def rd_law_draw : TrS := bSeq (bAsg (bBin addD (bBin ixD (bVar 0) (bC (.int 2))) (bC (.int 1))) (gS (bVar 0) (bC (.int 2)))) (bSeq (bAsg (bBin ixD (bVar 0) (bC (.int 0))) (gN 2)) (bSeq (bAsg (bBin modD (bBin addD (bBin addD (bBin mulD (bVar 2) (bBin addD (bBin modD (bVar 2) (bC (.int 46007))) (bC (.int 20011)))) (bBin mulD (bC (.int 60013)) (bBin ixD (bVar 0) (bC (.int 2))))) (bC (.int 5))) (bC (.int 1000000007))) (gS (bVar 0) (bC (.int 0)))) (bSeq (bIfS (bB (bBin gtD (bBin ixD (bVar 0) (bC (.int 1))) (bC (.int 0)))) (bSeq (bAsg (bBlt divmodD (bCons (bBin ixD (bVar 0) (bC (.int 1))) (bCons (bVar 1) (bNil)))) (gT 2 (gsCons (gS (bVar 0) (bC (.int 1))) (gsCons (gN 3) (gsNil))))) (bRet (bVar 3))) (bNext)) (bRet (bBin modD (bBin fdivD (bBin ixD (bVar 0) (bC (.int 0))) (bC (.int 32))) (bVar 1))))))
theorem con_law_draw (ds : List D) (h : TH) (Q : TQ) (c : c_law_draw ds h Q) : rd_law_draw { nx := fun _ h' => less Q .non h', rt := less Q } (startT 4 ds) h := by
  obtain ⟨p, m, a, b, c, rfl, e, ia, m0, m1, q⟩ := c
  have b1 : ∀ j, MulBig a j := fun j => mulB_l ia.lt.1 ia.lt.2
  have b2 : ∀ j, MulBig 60013 j := fun j => mulB_l (by decide) (by decide)
  have i0 : ixN 3 0 = some 0 := by decide
  have i1 : ixN 3 1 = some 1 := by decide
  have i2 : ixN 3 2 = some 2 := by decide
  simp [rd_law_draw, bRet, bRetN, bChain, bBin, bVar, bC, bNil, bCons, bTup, bLst, bDnew, bB, blQ, bUn, bAnd, bOr, bNot, bTru, truD, bAndV, bOrV, bNotV, bIf, iiD, addD, subD, fdivD, modD, powD, mulD, negD, ltD, leD, gtD, geD, eqG, eqD, neD, isN, isND, notND, inG, inD, notInD, inSeq, ixD, bNo, bPart, bSl, slD, bRev, bCall, bMeth, bMake, bFld, bProp, bBlt, lenD, absD, maxD, minD, divmodD, listD, tupleD, allD, anyD, isTyD, tyNm, tyIs, isOwnD, gN, gsNil, gsCons, gT, gS, setD, bNext, bSeq, bBreak, bCont, bNever, bExpr, bIfS, bAsg, bPar, bPar3, bSetF, bAug, iT, iL, iR1, iR2, iS, iEn, bFor, bYes, bLc, bMt, tyD, appendD, extendD, popD, joinD, bLstRg, rg1, rg2, bLstZip, bCallK, dictD, sortedD, keyOf, startT, toPy, toPys, pyOf, e, b1, b2, i0, i1, i2, put_put]
  have m5 : (32 : Nat) < 2 ^ 5000 := Nat.lt_of_lt_of_le (by decide : 32 < 2 ^ 6) (Nat.pow_le_pow_right (by decide) (by decide))
  split
  · exact ⟨⟨m0, m1⟩, less_of (q _ _ _ _ (Int.emod_nonneg _ (by omega)) (Int.emod_lt_of_pos _ m0) (InM.mod _))⟩
  · exact ⟨m5, m0, less_of (q _ _ _ _ (Int.emod_nonneg _ (by omega)) (Int.emod_lt_of_pos _ m0) (InM.mod _))⟩
/-! ### words -/
structure GoodWords (ws : List Str) : Prop where
  nm : ∀ w ∈ ws, GoodName w
  nd : ws.Nodup
def c_law_words : Con := fun ds h P => ∃ (p : Addr) (a b c : Int), ds = [.ref p, .int 24] ∧ h p = some (pl a b c) ∧ InM a ∧ ∀ (ws : List Str) (a b c : Int) (q : Addr), GoodWords ws → ws.length = 24 → InM a → h q = none → P (.ref q) (put (put h p (pl a b c)) q (.lst (ws.map D.str)))
def menuT1 : TrE := bLst (bCons (bC (.str "book")) (bCons (bC (.str "cancel")) (bCons (bC (.str "exchange")) (bCons (bC (.str "shift")) (bCons (bC (.str "seats")) (bCons (bC (.str "undo")) (bCons (bC (.str "show")) (bCons (bC (.str "line")) (bCons (bC (.str "count")) (bCons (bC (.str "number")) (bCons (bC (.str "load")) (bCons (bC (.str "trip")) (bNil)))))))))))))
def menuT2 : TrE := bLst (bCons (bC (.str "none")) (bCons (bC (.str "cut")) (bCons (bC (.str "overfull")) (bCons (bC (.str "a")) (bCons (bC (.str "b")) (bCons (bC (.str "x")) (bCons (bC (.str "plan")) (bCons (bC (.str "route")) (bCons (bC (.str "fixed")) (bCons (bC (.str "full")) (bCons (bC (.str "goal")) (bCons (bC (.str "name")) (bNil)))))))))))))
def rd_law_words : TrS := bSeq (bAsg (bC (.str "abcdefghijklmnopqrstuvwxyz")) (gN 2)) (bSeq (bAsg (menuT1) (gN 3)) (bSeq (bAsg (bBin addD (bVar 3) (menuT2)) (gN 3)) (bSeq (bAsg (bTup (bCons (bCall c_law_draw [] (bCons (bVar 0) (bCons (bC (.int 3)) (bNil)))) (bCons (bCall c_law_draw [] (bCons (bVar 0) (bCons (bC (.int 24)) (bNil)))) (bNil)))) (gT 2 (gsCons (gN 6) (gsCons (gN 7) (gsNil))))) (bSeq (bIfS (bB (bBin eqD (bVar 6) (bC (.int 0)))) (bRet (bLc (iR1 (bCons (bVar 1) (bNil))) (gN 8) (bYes) (bBin ixD (bVar 3) (bBin modD (bBin addD (bVar 7) (bBin mulD (bC (.int 5)) (bVar 8))) (bC (.int 24)))) [8])) (bNext)) (bSeq (bIfS (bB (bBin eqD (bVar 6) (bC (.int 1)))) (bRet (bLc (iR1 (bCons (bVar 1) (bNil))) (gN 8) (bYes) (bBin mulD (bBin ixD (bVar 2) (bBin modD (bBin addD (bVar 7) (bBin mulD (bC (.int 7)) (bVar 8))) (bC (.int 26)))) (bBin addD (bC (.int 1)) (bBin modD (bVar 8) (bC (.int 8))))) [8])) (bNext)) (bSeq (bAsg (bMt "str" joinD (bC (.str "")) (bCons (bLc (iR1 (bCons (bCall c_law_draw [] (bCons (bVar 0) (bCons (bC (.int 8)) (bNil)))) (bNil))) (gN 8) (bYes) (bBin ixD (bVar 2) (bCall c_law_draw [] (bCons (bVar 0) (bCons (bC (.int 26)) (bNil))))) [8]) (bNil))) (gN 4)) (bSeq (bAsg (bCall c_law_draw [] (bCons (bVar 0) (bCons (bBin addD (bBlt lenD (bCons (bVar 4) (bNil))) (bC (.int 1))) (bNil)))) (gN 5)) (bRet (bLc (iR1 (bCons (bVar 1) (bNil))) (gN 8) (bYes) (bBin addD (bBin addD (bSl (bVar 4) (bNo) (bPart (bVar 5))) (bBin ixD (bVar 2) (bBin modD (bBin addD (bVar 7) (bBin mulD (bC (.int 5)) (bVar 8))) (bC (.int 26))))) (bSl (bVar 4) (bPart (bVar 5)) (bNo))) [8])))))))))
def menu : List Str := ["book", "cancel", "exchange", "shift", "seats", "undo", "show", "line", "count", "number", "load", "trip", "none", "cut", "overfull", "a", "b", "x", "plan", "route", "fixed", "full", "goal", "name"]
theorem menuT1_ap {ds : TS0} {h : TH} {P : TQ} (q : ∀ p, h p = none → P (.ref p) (put h p (.lst ((menu.take 12).map D.str)))) : menuT1 ds h P := ⟨by decide, q⟩
theorem menuT2_ap {ds : TS0} {h : TH} {P : TQ} (q : ∀ p, h p = none → P (.ref p) (put h p (.lst ((menu.drop 12).map D.str)))) : menuT2 ds h P := ⟨by decide, q⟩
/-- the letter at i -/
def letter (i : Nat) : Str := ⟨#[letters.cps.toList.getD i 0]⟩
def words0 (b : Nat) : List Str := (List.range 24).map fun k => menu.getD ((b + 5 * k) % 24) letters
def words1 (b : Nat) : List Str := (List.range 24).map fun k => reps (letter ((b + 7 * k) % 26)) (1 + k % 8)
def goodB (w : Str) : Bool := decide (0 < w.length) && decide (w.length < 9) && w.cps.toList.all fun c => decide (c ∈ letters.cps.toList)
theorem good_of {w : Str} (h : goodB w = true) : GoodName w := by
  unfold goodB at h
  simp only [Bool.and_eq_true, decide_eq_true_eq, List.all_eq_true] at h
  exact ⟨h.1.1, h.1.2, h.2⟩
theorem words0_good (b : Nat) (h : b < 24) : GoodWords (words0 b) := by
  have k : ∀ b < 24, ((words0 b).all goodB = true) ∧ (words0 b).Nodup := by decide +kernel
  exact ⟨fun w hw => good_of (List.all_eq_true.mp (k b h).1 w hw), (k b h).2⟩
theorem words1_good (b : Nat) (h : b < 24) : GoodWords (words1 b) := by
  have k : ∀ b < 24, ((words1 b).all goodB = true) ∧ (words1 b).Nodup := by decide +kernel
  exact ⟨fun w hw => good_of (List.all_eq_true.mp (k b h).1 w hw), (k b h).2⟩
theorem app_cps (a b : Str) : (a ++ b).cps.toList = a.cps.toList ++ b.cps.toList := Array.toList_append
theorem len_cps (a : Str) : a.length = a.cps.toList.length := rfl
theorem join_ones : ∀ cs : List Nat, (Txt.join (Str.ofString "") (cs.map fun c => (⟨#[c]⟩ : Str))).cps.toList = cs := by
  intro cs
  have k : ∀ cs : List Nat, (Str.join (Str.ofString "") (cs.map fun c => (⟨#[c]⟩ : Str))).cps.toList = cs := by
    intro cs
    induction cs with
    | nil => rfl
    | cons c r ih =>
      cases r with
      | nil => rfl
      | cons d r =>
        show ((⟨#[c]⟩ : Str) ++ Str.ofString "" ++ Str.join (Str.ofString "") ((d :: r).map fun c => (⟨#[c]⟩ : Str))).cps.toList = _
        rw [app_cps, app_cps, ih]; rfl
  unfold Txt.join
  rw [StrLaws.glued_eq_join]
  exact k cs
/-- the words of the third way -/
def word2 (cs : List Nat) (at_ b k : Nat) : Str := ⟨(cs.take at_ ++ [letters.cps.toList.getD ((b + 5 * k) % 26) 0] ++ cs.drop at_).toArray⟩
def words2 (cs : List Nat) (at_ b : Nat) : List Str := (List.range 24).map (word2 cs at_ b)
theorem words2_good (cs : List Nat) (at_ b : Nat) (h : ∀ c ∈ cs, c ∈ letters.cps.toList) (hl : cs.length ≤ 7) (ha : at_ ≤ cs.length) (hb : b < 24) : GoodWords (words2 cs at_ b) := by
  have lt : ∀ k, (b + 5 * k) % 26 < letters.cps.toList.length := fun k => Nat.mod_lt _ (by decide)
  have mem : ∀ k, letters.cps.toList.getD ((b + 5 * k) % 26) 0 ∈ letters.cps.toList := fun k => by
    rw [List.getD_eq_getElem?_getD, List.getElem?_eq_getElem (lt k)]; exact List.getElem_mem _
  refine ⟨fun w hw => ?_, ?_⟩
  · obtain ⟨k, _, rfl⟩ := List.mem_map.mp hw
    refine ⟨?_, ?_, fun c hc => ?_⟩
    · rw [len_cps]; simp [word2]; omega
    · rw [len_cps]; simp [word2]; omega
    · have hc : c ∈ cs.take at_ ++ [letters.cps.toList.getD ((b + 5 * k) % 26) 0] ++ cs.drop at_ := by simpa [word2] using hc
      rw [List.mem_append, List.mem_append] at hc
      rcases hc with (hc | hc) | hc
      · exact h c (List.mem_of_mem_take hc)
      · rw [List.mem_singleton.mp hc]; exact mem k
      · exact h c (List.mem_of_mem_drop hc)
  · have inj : ∀ b < 24, ((List.range 24).map fun k => letters.cps.toList.getD ((b + 5 * k) % 26) 0).Nodup := by decide +kernel
    have e : ((words2 cs at_ b).map fun w => w.cps.toList.getD at_ 0) = (List.range 24).map fun k => letters.cps.toList.getD ((b + 5 * k) % 26) 0 := by
      unfold words2
      rw [List.map_map]
      refine List.map_congr_left fun k _ => ?_
      show (word2 cs at_ b k).cps.toList.getD at_ 0 = _
      have hlen : (cs.take at_).length = at_ := by rw [List.length_take]; omega
      unfold word2
      simp only [List.getD_eq_getElem?_getD]
      rw [List.append_assoc, List.getElem?_append_right (by omega), hlen, Nat.sub_self]
      rfl
    have := inj b hb
    rw [← e] at this
    exact List.Pairwise.of_map _ (fun a b h e => h (by rw [e])) this
theorem con_law_words (ds : List D) (h : TH) (Q : TQ) (c : c_law_words ds h Q) : rd_law_words { nx := fun _ h' => less Q .non h', rt := less Q } (startT 9 ds) h := by
  obtain ⟨p, a, b, c, rfl, e, ia, q⟩ := c
  simp [rd_law_words, bRet, bRetN, bChain, bBin, bVar, bC, bNil, bCons, bTup, bLst, bDnew, bB, blQ, bUn, bAnd, bOr, bNot, bTru, truD, bAndV, bOrV, bNotV, bIf, iiD, addD, subD, fdivD, modD, powD, mulD, negD, ltD, leD, gtD, geD, eqG, eqD, neD, isN, isND, notND, inG, inD, notInD, inSeq, ixD, bNo, bPart, bSl, slD, bRev, bCall, bMeth, bMake, bFld, bProp, bBlt, lenD, absD, maxD, minD, divmodD, listD, tupleD, allD, anyD, isTyD, tyNm, tyIs, isOwnD, gN, gsNil, gsCons, gT, gS, setD, bNext, bSeq, bBreak, bCont, bNever, bExpr, bIfS, bAsg, bPar, bPar3, bSetF, bAug, iT, iL, iR1, iR2, iS, iEn, bFor, bYes, bLc, bMt, tyD, appendD, extendD, popD, joinD, bLstRg, rg1, rg2, bLstZip, bCallK, dictD, sortedD, keyOf, startT, toPy, toPys, pyOf]
  refine menuT1_ap fun p2 hp2 => ?_
  refine menuT2_ap fun p3 hp3 => ?_
  have n32 : p2 ≠ p3 := fun z => by rw [← z, put_same] at hp3; cases hp3
  have a2 : put (put h p2 (.lst ((menu.take 12).map D.str))) p3 (.lst ((menu.drop 12).map D.str)) p2 = some (.lst ((menu.take 12).map D.str)) := by rw [put_ne n32, put_same]
  have a3 : put (put h p2 (.lst ((menu.take 12).map D.str))) p3 (.lst ((menu.drop 12).map D.str)) p3 = some (.lst ((menu.drop 12).map D.str)) := put_same
  have s3 : Sub h (put (put h p2 (.lst ((menu.take 12).map D.str))) p3 (.lst ((menu.drop 12).map D.str))) := (Sub.put hp2).trans (Sub.put hp3)
  generalize put (put h p2 (.lst ((menu.take 12).map D.str))) p3 (.lst ((menu.drop 12).map D.str)) = h3 at a2 a3 s3 ⊢
  simp only [a2, a3]
  refine ⟨by decide, fun n hn => ?_⟩
  have em : ((menu.take 12).map D.str ++ (menu.drop 12).map D.str) = menu.map D.str := by rw [← List.map_append, List.take_append_drop]
  rw [em]
  have s4 : Sub h (put h3 n (.lst (menu.map D.str))) := s3.trans (Sub.put hn)
  have a4 : put h3 n (.lst (menu.map D.str)) n = some (.lst (menu.map D.str)) := put_same
  generalize put h3 n (.lst (menu.map D.str)) = h4 at s4 a4 ⊢
  clear a2 a3 s3 hp2 hp3 hn n32 em
  have e4 := s4 _ _ e
  have pn : p ≠ n := fun z => by rw [z, a4] at e4; cases e4
  refine draw_ok e4 ia (by decide) (by decide) fun way a b c w0 w3 ia => ?_
  refine draw_ok put_same ia (by decide) (by decide) fun bg a b c b0 b24 ia => ?_
  rw [put_put]
  have a5 : put h4 p (pl a b c) n = some (.lst (menu.map D.str)) := by rw [put_ne pn.symm]; exact a4
  have fin : ∀ (ws : List Str) (a b c : Int) (p1 : Addr), GoodWords ws → ws.length = 24 → InM a → put h4 p (pl a b c) p1 = none → less Q (.ref p1) (put (put h4 p (pl a b c)) p1 (.lst (ws.map D.str))) := fun ws a b c p1 g1 g2 g3 g4 => by
    refine less_sub (Sub.upd (Sub.upd s4)) (q ws a b c p1 g1 g2 g3 ?_)
    exact Sub.none s4 (put_none g4).1
  obtain ⟨bn, rfl⟩ : ∃ n : Nat, bg = n := ⟨bg.toNat, by omega⟩
  have bn24 : bn < 24 := by omega
  simp
  by_cases way0 : way = 0
  · rw [if_pos way0]
    intro p1 hp1
    have np1 : n ≠ p1 := fun z => by rw [← z, a5] at hp1; cases hp1
    refine lc_map (put h4 p (pl a b c)) (fun i : Nat => D.int (0 + (i : Int))) (fun k => .str (menu.getD ((bn + 5 * k) % 24) letters)) (List.range 24) hp1 (by decide) (fun _ => trivial) (fun k hk acc Kn kn => ?_) ?_
    · have hk : k < 24 := List.mem_range.mp hk
      have m5 : MulBig 5 k := mulB_l (by decide) (by decide)
      have ei : atI (menu.map D.str) (((bn : Int) + 5 * (k : Int)) % 24) = some (.str (menu.getD ((bn + 5 * k) % 24) letters)) := by
        have hlt : (bn + 5 * k) % 24 < menu.length := Nat.mod_lt _ (by decide)
        rw [show (((bn : Int) + 5 * (k : Int)) % 24) = (((bn + 5 * k) % 24 : Nat) : Int) by omega, atI_nat _ _ (by rw [List.length_map]; exact hlt), List.getElem?_map, List.getD_eq_getElem?_getD, List.getElem?_eq_getElem hlt]; rfl
      simp [lcItem, bRet, bRetN, bChain, bBin, bVar, bC, bNil, bCons, bTup, bLst, bDnew, bB, blQ, bUn, bAnd, bOr, bNot, bTru, truD, bAndV, bOrV, bNotV, bIf, iiD, addD, subD, fdivD, modD, powD, mulD, negD, ltD, leD, gtD, geD, eqG, eqD, neD, isN, isND, notND, inG, inD, notInD, inSeq, ixD, bNo, bPart, bSl, slD, bRev, bCall, bMeth, bMake, bFld, bProp, bBlt, lenD, absD, maxD, minD, divmodD, listD, tupleD, allD, anyD, isTyD, tyNm, tyIs, isOwnD, gN, gsNil, gsCons, gT, gS, setD, bNext, bSeq, bBreak, bCont, bNever, bExpr, bIfS, bAsg, bPar, bPar3, bSetF, bAug, iT, iL, iR1, iR2, iS, iEn, bFor, bYes, bLc, bMt, tyD, appendD, extendD, popD, joinD, bLstRg, rg1, rg2, bLstZip, bCallK, dictD, sortedD, keyOf, startT, toPy, toPys, pyOf, wipeT, m5, put_ne np1, a5, ei]
      exact kn
    · have e1 : ((List.range 24).map fun k => D.str (menu.getD ((bn + 5 * k) % 24) letters)) = (words0 bn).map D.str := by unfold words0; rw [List.map_map]; rfl
      rw [e1]
      exact fin _ _ _ _ _ (words0_good bn bn24) (by simp [words0]) ia hp1
  · rw [if_neg way0]
    by_cases way1 : way = 1
    · rw [if_pos way1]
      intro p1 hp1
      refine lc_map (put h4 p (pl a b c)) (fun i : Nat => D.int (0 + (i : Int))) (fun k => .str (reps (letter ((bn + 7 * k) % 26)) (1 + k % 8))) (List.range 24) hp1 (by decide) (fun _ => trivial) (fun k hk acc Kn kn => ?_) ?_
      · have hk : k < 24 := List.mem_range.mp hk
        have m7 : MulBig 7 k := mulB_l (by decide) (by decide)
        have hlt : (bn + 7 * k) % 26 < letters.cps.toList.length := Nat.mod_lt _ (by decide)
        have ei : atI letters.cps.toList (((bn : Int) + 7 * (k : Int)) % 26) = some (letters.cps.toList.getD ((bn + 7 * k) % 26) 0) := by
          rw [show (((bn : Int) + 7 * (k : Int)) % 26) = (((bn + 7 * k) % 26 : Nat) : Int) by omega, atI_nat _ _ hlt, List.getD_eq_getElem?_getD, List.getElem?_eq_getElem hlt]; rfl
        have ll : letters.length ≤ 100000 := by decide
        have e1 : (Str.ofString "abcdefghijklmnopqrstuvwxyz") = letters := rfl
        simp only [lcItem, bRet, bRetN, bChain, bBin, bVar, bC, bNil, bCons, bTup, bLst, bDnew, bB, blQ, bUn, bAnd, bOr, bNot, bTru, truD, bAndV, bOrV, bNotV, bIf, iiD, addD, subD, fdivD, modD, powD, mulD, negD, ltD, leD, gtD, geD, eqG, eqD, neD, isN, isND, notND, inG, inD, notInD, inSeq, ixD, bNo, bPart, bSl, slD, bRev, bCall, bMeth, bMake, bFld, bProp, bBlt, lenD, absD, maxD, minD, divmodD, listD, tupleD, allD, anyD, isTyD, tyNm, tyIs, isOwnD, gN, gsNil, gsCons, gT, gS, setD, bNext, bSeq, bBreak, bCont, bNever, bExpr, bIfS, bAsg, bPar, bPar3, bSetF, bAug, iT, iL, iR1, iR2, iS, iEn, bFor, bYes, bLc, bMt, tyD, appendD, extendD, popD, joinD, bLstRg, rg1, rg2, bLstZip, bCallK, dictD, sortedD, keyOf, startT, toPy, toPys, pyOf, wipeT, e1]
        simp [m7, ei, ll]
        have el : (⟨#[letters.cps[(bn + 7 * k) % 26]?.getD 0]⟩ : Str) = letter ((bn + 7 * k) % 26) := by unfold letter; simp
        have et : ((1 : Int) + (k : Int) % 8).toNat = 1 + k % 8 := by omega
        rw [el, et]
        refine ⟨⟨?_, by omega, by omega⟩, kn⟩
        show 1 ≤ 1000
        decide
      · have e1 : ((List.range 24).map fun k => D.str (reps (letter ((bn + 7 * k) % 26)) (1 + k % 8))) = (words1 bn).map D.str := by unfold words1; rw [List.map_map]; rfl
        rw [e1]
        exact fin _ _ _ _ _ (words1_good bn bn24) (by simp [words1]) ia hp1
    · rw [if_neg way1]
      refine draw_ok put_same ia (by decide) (by decide) fun r a b c r0 r8 ia => ?_
      rw [put_put]
      refine ⟨⟨by omega, by omega⟩, fun p1 hp1 => ?_⟩
      have hp4 := (put_none hp1).1
      have pp1 : p1 ≠ p := (put_none hp1).2
      refine lc_state _ (fun i acc h => ∃ cs : List Nat, cs.length = i ∧ acc = cs.map (fun c => D.str ⟨#[c]⟩) ∧ (∀ c ∈ cs, c ∈ letters.cps.toList) ∧ ∃ a b c, InM a ∧ h = put (put h4 p (pl a b c)) p1 (.lst acc)) (by simp [upTo]; omega) ⟨[], rfl, rfl, by simp, a, b, c, ia, rfl⟩ (fun _ _ _ _ _ => trivial) (fun i x acc h' Kn hi j kn _ => ?_) (fun acc h' j => ?_)
      · obtain ⟨cs, rfl, rfl, hcs, a, b, c, ia, rfl⟩ := j
        have e1 : (Str.ofString "abcdefghijklmnopqrstuvwxyz") = letters := rfl
        have ll : letters.length ≤ 100000 := by decide
        simp only [lcItem, bRet, bRetN, bChain, bBin, bVar, bC, bNil, bCons, bTup, bLst, bDnew, bB, blQ, bUn, bAnd, bOr, bNot, bTru, truD, bAndV, bOrV, bNotV, bIf, iiD, addD, subD, fdivD, modD, powD, mulD, negD, ltD, leD, gtD, geD, eqG, eqD, neD, isN, isND, notND, inG, inD, notInD, inSeq, ixD, bNo, bPart, bSl, slD, bRev, bCall, bMeth, bMake, bFld, bProp, bBlt, lenD, absD, maxD, minD, divmodD, listD, tupleD, allD, anyD, isTyD, tyNm, tyIs, isOwnD, gN, gsNil, gsCons, gT, gS, setD, bNext, bSeq, bBreak, bCont, bNever, bExpr, bIfS, bAsg, bPar, bPar3, bSetF, bAug, iT, iL, iR1, iR2, iS, iEn, bFor, bYes, bLc, bMt, tyD, appendD, extendD, popD, joinD, bLstRg, rg1, rg2, bLstZip, bCallK, dictD, sortedD, keyOf, startT, toPy, toPys, pyOf, wipeT, e1]
        simp
        refine draw_ok (by rw [put_ne pp1.symm, put_same]) ia (by decide) (by decide) fun v a b c v0 v26 ia => ?_
        have hv : v < letters.cps.toList.length := v26
        obtain ⟨y, e2, e3⟩ := atI_of v0 hv
        rw [put_comm pp1, put_put]
        simp [e3, ll]
        refine kn _ _ _ (Sub.refl _) put_same ⟨cs ++ [y], by simp, by simp, fun c hc => ?_, a, b, c, ia, by rw [put_put]⟩
        rcases List.mem_append.mp hc with hc | hc
        · exact hcs c hc
        · rw [List.mem_singleton.mp hc]; exact List.mem_of_getElem? e2
      · obtain ⟨cs, hlen, rfl, hcs, a, b, c, ia, rfl⟩ := j
        have hl7 : cs.length ≤ 7 := by rw [hlen]; simp [upTo]; omega
        have es : strsOf (cs.map fun c => D.str ⟨#[c]⟩) = some (cs.map fun c => (⟨#[c]⟩ : Str)) := by
          have := strsOf_map (cs.map fun c => (⟨#[c]⟩ : Str))
          rw [List.map_map] at this; exact this
        have ej : (Txt.join (Str.ofString "") (cs.map fun c => (⟨#[c]⟩ : Str))).cps.toList = cs := join_ones cs
        have ejl : (Txt.join (Str.ofString "") (cs.map fun c => (⟨#[c]⟩ : Str))).length = cs.length := by rw [len_cps, ej]
        have esum : ((cs.map fun c => (⟨#[c]⟩ : Str)).map (·.length)).sum = cs.length := by
          clear hlen hcs es ej ejl hl7
          induction cs with
          | nil => rfl
          | cons c r ih => rw [List.map_cons, List.map_cons, List.sum_cons, ih]; show 1 + r.length = r.length + 1; omega
        simp only [put_at, es, ejl, esum]
        generalize Txt.join (Str.ofString "") (cs.map fun c => (⟨#[c]⟩ : Str)) = stem at ej ejl ⊢
        refine ⟨by rw [List.length_map]; show cs.length + cs.length * 0 ≤ 100000; omega, by omega, ?_⟩
        refine draw_ok (by rw [put_ne pp1.symm, put_same]) ia (by omega) (by omega) fun at_ a' b' c' at0 at1 ia => ?_
        rw [put_comm pp1, put_put]
        obtain ⟨an, rfl⟩ : ∃ n : Nat, at_ = n := ⟨at_.toNat, by omega⟩
        have han : an ≤ cs.length := by omega
        intro p5 hp5
        refine lc_map _ (fun i : Nat => D.int (0 + (i : Int))) (fun k => .str (word2 cs an bn k)) (List.range 24) hp5 (by decide) (fun _ => trivial) (fun k hk acc Kn kn => ?_) ?_
        · have hk : k < 24 := List.mem_range.mp hk
          have m5 : MulBig 5 k := mulB_l (by decide) (by decide)
          have hlt : (bn + 5 * k) % 26 < letters.cps.toList.length := Nat.mod_lt _ (by decide)
          have ei : atI letters.cps.toList (((bn : Int) + 5 * (k : Int)) % 26) = some (letters.cps.toList.getD ((bn + 5 * k) % 26) 0) := by
            rw [show (((bn : Int) + 5 * (k : Int)) % 26) = (((bn + 5 * k) % 26 : Nat) : Int) by omega, atI_nat _ _ hlt, List.getD_eq_getElem?_getD, List.getElem?_eq_getElem hlt]; rfl
          have ll : letters.length ≤ 100000 := by decide
          have e1 : (Str.ofString "abcdefghijklmnopqrstuvwxyz") = letters := rfl
          have sl : stem.length ≤ 100000 := by omega
          have c1 : (cutS stem none (some (an : Int))).cps.toList = cs.take an := by
            unfold cutS
            rw [HT.sIx_none, HT.sIx_nat, ejl, ej]
            simp
          have c2 : (cutS stem (some (an : Int)) none).cps.toList = cs.drop an := by
            unfold cutS
            rw [HT.sIx_none, HT.sIx_nat, ejl, ej, show min an cs.length = an by omega]
            simp
            exact List.take_of_length_le (by simp)
          have c3 : (cutS stem none (some (an : Int))) ++ (⟨#[letters.cps.toList.getD ((bn + 5 * k) % 26) 0]⟩ : Str) ++ (cutS stem (some (an : Int)) none) = word2 cs an bn k := by
            apply str_ext
            rw [app_cps, app_cps, c1, c2]; unfold word2; simp
          have l1 : (cutS stem none (some (an : Int))).length ≤ 7 := by rw [len_cps, c1, List.length_take]; omega
          have l2 : (cutS stem (some (an : Int)) none).length ≤ 7 := by rw [len_cps, c2, List.length_drop]; omega
          have l3 : (⟨#[letters.cps.toList.getD ((bn + 5 * k) % 26) 0]⟩ : Str).length = 1 := rfl
          have l4 : ((cutS stem none (some (an : Int))) ++ (⟨#[letters.cps.toList.getD ((bn + 5 * k) % 26) 0]⟩ : Str)).length ≤ 8 := by rw [len_cps, app_cps, List.length_append, ← len_cps, ← len_cps, l3]; omega
          simp only [lcItem, bRet, bRetN, bChain, bBin, bVar, bC, bNil, bCons, bTup, bLst, bDnew, bB, blQ, bUn, bAnd, bOr, bNot, bTru, truD, bAndV, bOrV, bNotV, bIf, iiD, addD, subD, fdivD, modD, powD, mulD, negD, ltD, leD, gtD, geD, eqG, eqD, neD, isN, isND, notND, inG, inD, notInD, inSeq, ixD, bNo, bPart, bSl, slD, bRev, bCall, bMeth, bMake, bFld, bProp, bBlt, lenD, absD, maxD, minD, divmodD, listD, tupleD, allD, anyD, isTyD, tyNm, tyIs, isOwnD, gN, gsNil, gsCons, gT, gS, setD, bNext, bSeq, bBreak, bCont, bNever, bExpr, bIfS, bAsg, bPar, bPar3, bSetF, bAug, iT, iL, iR1, iR2, iS, iEn, bFor, bYes, bLc, bMt, tyD, appendD, extendD, popD, joinD, bLstRg, rg1, rg2, bLstZip, bCallK, dictD, sortedD, keyOf, startT, toPy, toPys, pyOf, wipeT, e1]
          simp only [List.set_cons_zero, List.set_cons_succ, List.getElem?_cons_zero, List.getElem?_cons_succ, m5, ei, if_true, Int.zero_add]
          simp only [ll, sl, true_and, l3]
          rw [← c3] at kn
          exact ⟨by omega, by omega, by omega, kn⟩
        · have e1 : ((List.range 24).map fun k => D.str (word2 cs an bn k)) = (words2 cs an bn).map D.str := by unfold words2; rw [List.map_map]; rfl
          rw [e1]
          have n1 : put h4 p (pl a' b' c') p1 = none := by rw [put_ne pp1]; exact hp4
          have s5 : Sub (put h p (pl a' b' c')) (put (put h4 p (pl a' b' c')) p1 (.lst (cs.map fun c => D.str ⟨#[c]⟩))) := (Sub.upd s4).trans (Sub.put n1)
          exact less_sub (Sub.upd s5) (q _ a' b' c' p5 (words2_good cs an bn hcs hl7 han bn24) (by simp [words2]) ia (Sub.none s4 (put_none (put_none hp5).1).1))
end T
set_option Elab.async false
set_option linter.all false
set_option maxRecDepth 100000
set_option maxHeartbeats 1000000
namespace T
open PySem L2 PyProof.Rows
/-! ### places -/
structure Asc (xs : List Int) : Prop where
  pw : xs.Pairwise (· < ·)
  nn : ∀ x ∈ xs, 0 ≤ x
def c_law_far : Con := fun ds h P => ∃ (p : Addr) (hi a b c : Int), ds = [.ref p, .int hi] ∧ h p = some (pl a b c) ∧ InM a ∧ 0 ≤ hi ∧ hi ≤ 100 ∧ ∀ (xs : List Int) (a b c : Int) (q : Addr), Asc xs → (xs.length : Int) = hi + 1 → InM a → h q = none → P (.ref q) (put (put h p (pl a b c)) q (.lst (xs.map D.int)))
theorem far_ok {p : Addr} {hi a b c : Int} {h : TH} {P : TQ} (e : h p = some (pl a b c)) (ia : InM a) (h0 : 0 ≤ hi) (h1 : hi ≤ 100) (q : ∀ (xs : List Int) (a b c : Int) (q : Addr), Asc xs → (xs.length : Int) = hi + 1 → InM a → h q = none → P (.ref q) (put (put h p (pl a b c)) q (.lst (xs.map D.int)))) : c_law_far [.ref p, .int hi] h P := ⟨p, hi, a, b, c, rfl, e, ia, h0, h1, q⟩
/-- h and a pool at p, a list at q -/
def PL (h : TH) (p q : Addr) (a b c : Int) (xs : List D) : TH := put (put h p (pl a b c)) q (.lst xs)
theorem PL.q {h : TH} {p q : Addr} {a b c : Int} {xs : List D} : PL h p q a b c xs q = some (.lst xs) := put_same
theorem PL.p {h : TH} {p q : Addr} {a b c : Int} {xs : List D} (n : p ≠ q) : PL h p q a b c xs p = some (pl a b c) := by unfold PL; rw [put_ne n, put_same]
theorem PL.setP {h h' : TH} {p q : Addr} {a b c a' b' c' : Int} {xs : List D} (n : p ≠ q) (s : Sub (PL h p q a b c xs) h') : Sub (PL h p q a' b' c' xs) (put h' p (pl a' b' c')) := by
  have := Sub.upd (a := p) (o := pl a' b' c') s
  unfold PL at this ⊢
  rwa [put_comm n.symm, put_put] at this
theorem PL.setQ {h h' : TH} {p q : Addr} {a b c : Int} {xs ys : List D} (s : Sub (PL h p q a b c xs) h') : Sub (PL h p q a b c ys) (put h' q (.lst ys)) := by
  have := Sub.upd (a := q) (o := .lst ys) s
  unfold PL at this ⊢
  rwa [put_put] at this
def rd_law_far : TrS := bSeq (bPar3 3 4 5 (bCons (bLst (bNil)) (bCons (bCall c_law_draw [] (bCons (bVar 0) (bCons (bC (.int 3)) (bNil)))) (bCons (bCall c_law_draw [] (bCons (bVar 0) (bCons (bC (.int 3)) (bNil)))) (bNil))))) (bSeq (bFor (iR1 (bCons (bBin addD (bVar 1) (bC (.int 1))) (bNil))) (gN 2) (bSeq (bExpr (bMt "list" appendD (bVar 3) (bCons (bIf (bB (bBin gtD (bVar 5) (bC (.int 0)))) (bVar 2) (bVar 4)) (bNil)))) (bAsg (bBin addD (bBin addD (bVar 4) (bC (.int 1))) (bBin ixD (bLst (bCons (bC (.int 0)) (bCons (bCall c_law_draw [] (bCons (bVar 0) (bCons (bC (.int 9)) (bNil)))) (bCons (bBin powD (bC (.int 10)) (bC (.int 29))) (bNil))))) (bCall c_law_draw [] (bCons (bVar 0) (bCons (bC (.int 3)) (bNil)))))) (gN 4)))) (bRet (bVar 3)))
theorem con_law_far (ds : List D) (h : TH) (Q : TQ) (c : c_law_far ds h Q) : rd_law_far { nx := fun _ h' => less Q .non h', rt := less Q } (startT 6 ds) h := by
  obtain ⟨p, hi, a, b, c, rfl, e, ia, h0, h1, q⟩ := c
  simp [rd_law_far, bRet, bRetN, bChain, bBin, bVar, bC, bNil, bCons, bTup, bLst, bDnew, bB, blQ, bUn, bAnd, bOr, bNot, bTru, truD, bAndV, bOrV, bNotV, bIf, iiD, addD, subD, fdivD, modD, powD, mulD, negD, ltD, leD, gtD, geD, eqG, eqD, neD, isN, isND, notND, inG, inD, notInD, inSeq, ixD, bNo, bPart, bSl, slD, bRev, bCall, bMeth, bMake, bFld, bProp, bBlt, lenD, absD, maxD, minD, divmodD, listD, tupleD, allD, anyD, isTyD, tyNm, tyIs, isOwnD, gN, gsNil, gsCons, gT, gS, setD, bNext, bSeq, bBreak, bCont, bNever, bExpr, bIfS, bAsg, bPar, bPar3, bSetF, bAug, iT, iL, iR1, iR2, iS, iEn, bFor, bYes, bLc, bMt, tyD, appendD, extendD, popD, joinD, bLstRg, rg1, rg2, bLstZip, bCallK, dictD, sortedD, keyOf, startT, toPy, toPys, pyOf]
  intro l hl
  have pl_ : p ≠ l := fun z => by rw [z, hl] at e; cases e
  refine draw_ok (by rw [put_ne pl_, e]) ia (by decide) (by decide) fun here a b c hr0 hr3 ia => ?_
  refine draw_ok put_same ia (by decide) (by decide) fun way a b c w0 w3 ia => ?_
  refine ⟨⟨by omega, by omega⟩, ?_⟩
  refine loop_inv _ (fun i ds' h' => ∃ (xs : List Int) (here a b c : Int) (o : Option D), ds' = [some (.ref p), some (.int hi), o, some (.ref l), some (.int here), some (.int way)] ∧ (xs.length : Int) = i ∧ Asc xs ∧ 0 ≤ here ∧ (∀ x ∈ xs, x < if 0 < way then (i : Int) else here) ∧ InM a ∧ Sub (PL h p l a b c (xs.map D.int)) h') ?_ (fun _ _ _ _ _ => trivial) (fun i x ds' h' Kn ei j kn => ?_) (fun ds' h' j => ?_)
  · refine ⟨[], here, a, b, c, none, rfl, rfl, ⟨.nil, by simp⟩, hr0, by simp, ia, ?_⟩
    rw [put_put, put_comm pl_.symm]
    exact Sub.refl _
  · obtain ⟨xs, here, a, b, c, o, rfl, hlen, asc, hh, hb, ia, s⟩ := j
    have hi' : i < (hi + 1).toNat := by
      have := (List.getElem?_eq_some_iff.mp ei).1
      simpa [upTo] using this
    have ex : x = .int (i : Int) := by
      have e1 : (upTo 0 (hi + 1).toNat)[i]? = some (.int (0 + (i : Int))) := by unfold upTo; rw [List.getElem?_map, List.getElem?_range hi']; rfl
      rw [e1] at ei; injection ei with ei; rw [← ei, Int.zero_add]
    subst ex
    have hq := s _ _ (PL.q (h := h) (p := p))
    have xl : xs.length < 100000 := by omega
    have cp : CPow 10 29 := by unfold CPow; decide
    have bd : ∀ (v z a b c : Int) (h4 : TH), v = (if 0 < way then (i : Int) else here) → 0 ≤ z → InM a → Sub (PL h p l a b c (xs.map D.int ++ [.int v])) h4 → Kn [some (.ref p), some (.int hi), some (.int (i : Int)), some (.ref l), some (.int (here + 1 + z)), some (.int way)] h4 := fun v z a b c h4 hv hz ia s4 => by
      refine kn _ _ ⟨xs ++ [v], here + 1 + z, a, b, c, _, rfl, by simp; omega, ⟨?_, ?_⟩, by omega, ?_, ia, by rw [List.map_append]; exact s4⟩
      · refine List.pairwise_append.mpr ⟨asc.pw, List.pairwise_singleton _ _, fun x hx y hy => ?_⟩
        rw [List.mem_singleton.mp hy, hv]; exact hb x hx
      · intro x hx
        rcases List.mem_append.mp hx with hx | hx
        · exact asc.nn x hx
        · rw [List.mem_singleton.mp hx, hv]; split <;> omega
      · intro x hx
        rcases List.mem_append.mp hx with hx | hx
        · have := hb x hx
          split at this <;> rename_i z1
          · rw [if_pos z1]; omega
          · rw [if_neg z1]; omega
        · rw [List.mem_singleton.mp hx, hv]
          split <;> omega
    simp [bRet, bRetN, bChain, bBin, bVar, bC, bNil, bCons, bTup, bLst, bDnew, bB, blQ, bUn, bAnd, bOr, bNot, bTru, truD, bAndV, bOrV, bNotV, bIf, iiD, addD, subD, fdivD, modD, powD, mulD, negD, ltD, leD, gtD, geD, eqG, eqD, neD, isN, isND, notND, inG, inD, notInD, inSeq, ixD, bNo, bPart, bSl, slD, bRev, bCall, bMeth, bMake, bFld, bProp, bBlt, lenD, absD, maxD, minD, divmodD, listD, tupleD, allD, anyD, isTyD, tyNm, tyIs, isOwnD, gN, gsNil, gsCons, gT, gS, setD, bNext, bSeq, bBreak, bCont, bNever, bExpr, bIfS, bAsg, bPar, bPar3, bSetF, bAug, iT, iL, iR1, iR2, iS, iEn, bFor, bYes, bLc, bMt, tyD, appendD, extendD, popD, joinD, bLstRg, rg1, rg2, bLstZip, bCallK, dictD, sortedD, keyOf, startT, toPy, toPys, pyOf, hq, xl, cp]
    split
    all_goals
      rename_i zw
      have s1 := PL.setQ s (ys := xs.map D.int ++ [.int (if 0 < way then (i : Int) else here)])
      simp only [zw, if_true, if_false] at s1
      refine draw_ok (s1 _ _ (PL.p pl_)) ia (by decide) (by decide) fun r a b c r0 r9 ia => ?_
      intro q hq
      have s2 := PL.setP pl_ s1 (a' := a) (b' := b) (c' := c)
      have s3 := s2.trans (Sub.put hq (o := .lst [.int 0, .int r, .int (10 ^ 29)]))
      have pq : p ≠ q := fun z => by rw [← z, put_same] at hq; cases hq
      refine draw_ok (s3 _ _ (PL.p pl_)) ia (by decide) (by decide) fun k a b c k0 k3 ia => ?_
      simp only [put_ne pq.symm, put_same]
      have s4 := PL.setP pl_ s3 (a' := a) (b' := b) (c' := c)
      have hk : k = 0 ∨ k = 1 ∨ k = 2 := by omega
      rcases hk with rfl | rfl | rfl
      · simp only [atI_0]; exact bd _ 0 _ _ _ _ (by simp [zw]) (by decide) ia s4
      · simp only [atI_1]; exact bd _ r _ _ _ _ (by simp [zw]) r0 ia s4
      · simp only [atI_2]; exact bd _ _ _ _ _ _ (by simp [zw]) (by decide) ia s4
  · obtain ⟨xs, here, a, b, c, o, rfl, hlen, asc, hh, hb, ia, s⟩ := j
    have hl' : (upTo 0 (hi + 1).toNat).length = (hi + 1).toNat := by simp [upTo]
    rw [hl'] at hlen
    simp
    exact less_sub s (q xs a b c l asc (by omega) ia hl)
/-! ### rides -/
def c_law_rides : Con := fun ds h P => ∃ (p wl : Addr) (hi a b c : Int) (ws : List Str), ds = [.ref p, .ref wl, .int hi] ∧ h p = some (pl a b c) ∧ InM a ∧ h wl = some (.lst (ws.map D.str)) ∧ GoodWords ws ∧ ws.length ≤ 24 ∧ 1 ≤ hi ∧ hi ≤ 100 ∧
  ∀ (rs : List Ride) (a b c : Int), GoodRides rs → rs.length = ws.length → InM a → P (.tup (rs.map tR)) (put h p (pl a b c))
theorem rides_ok {p wl : Addr} {hi a b c : Int} {ws : List Str} {h : TH} {P : TQ} (e : h p = some (pl a b c)) (ia : InM a) (ew : h wl = some (.lst (ws.map D.str))) (g : GoodWords ws) (l : ws.length ≤ 24) (h1 : 1 ≤ hi) (h2 : hi ≤ 100)
    (q : ∀ (rs : List Ride) (a b c : Int), GoodRides rs → rs.length = ws.length → InM a → P (.tup (rs.map tR)) (put h p (pl a b c))) : c_law_rides [.ref p, .ref wl, .int hi] h P := ⟨p, wl, hi, a, b, c, ws, rfl, e, ia, ew, g, l, h1, h2, q⟩
theorem asc_at {xs : List Int} (a : Asc xs) {i j : Int} (h0 : 0 ≤ i) (h1 : i < j) (h2 : j < xs.length) : ∃ x y, atI xs i = some x ∧ atI xs j = some y ∧ x < y ∧ 0 ≤ x := by
  obtain ⟨x, e1, e2⟩ := atI_of (xs := xs) h0 (by omega)
  obtain ⟨y, e3, e4⟩ := atI_of (xs := xs) (i := j) (by omega) h2
  refine ⟨x, y, e2, e4, ?_, a.nn x (List.mem_of_getElem? e1)⟩
  obtain ⟨l1, g1⟩ := List.getElem?_eq_some_iff.mp e1
  obtain ⟨l2, g2⟩ := List.getElem?_eq_some_iff.mp e3
  have := List.pairwise_iff_getElem.mp a.pw i.toNat j.toNat l1 l2 (by omega)
  rw [g1, g2] at this; exact this
theorem atI_int {xs : List Int} {i x : Int} (e : atI xs i = some x) : atI (xs.map D.int) i = some (.int x) := by
  unfold atI at e ⊢
  rw [List.length_map]
  cases q : ixN xs.length i with
  | none => rw [q] at e; cases e
  | some j =>
    rw [q] at e
    show (xs.map D.int)[j]? = _
    rw [List.getElem?_map, show xs[j]? = some x from e]; rfl
def rd_law_rides : TrS := bSeq (bPar3 4 5 6 (bCons (bCall c_law_far [] (bCons (bVar 0) (bCons (bVar 2) (bNil)))) (bCons (bLst (bNil)) (bCons (bC (.int 0)) (bNil))))) (bSeq (bFor (iL (bVar 1)) (gN 3) (bSeq (bAsg (bCall c_law_draw [] (bCons (bVar 0) (bCons (bC (.int 4)) (bNil)))) (gN 7)) (bSeq (bAsg (bIf (bAnd (bB (bBin eqD (bVar 7) (bC (.int 0)))) (bB (bBin ltD (bVar 6) (bVar 2)))) (bVar 6) (bCall c_law_draw [] (bCons (bVar 0) (bCons (bVar 2) (bNil))))) (gN 8)) (bSeq (bAsg (bBin addD (bBin addD (bVar 8) (bC (.int 1))) (bCall c_law_draw [] (bCons (bVar 0) (bCons (bIf (bB (bBin gtD (bBin subD (bVar 2) (bVar 8)) (bC (.int 1)))) (bBin ixD (bLst (bCons (bC (.int 1)) (bCons (bC (.int 2)) (bCons (bBin subD (bVar 2) (bVar 8)) (bCons (bBin subD (bVar 2) (bVar 8)) (bNil)))))) (bVar 7)) (bC (.int 1))) (bNil))))) (gN 6)) (bSeq (bAsg (bBlt minD (bCons (bVar 6) (bCons (bVar 2) (bNil)))) (gN 6)) (bExpr (bMt "list" appendD (bVar 5) (bCons (bTup (bCons (bVar 3) (bCons (bBin ixD (bVar 4) (bVar 8)) (bCons (bBin ixD (bVar 4) (bVar 6)) (bNil))))) (bNil))))))))) (bRet (bBlt tupleD (bCons (bBlt sortedD (bCons (bVar 5) (bNil))) (bNil)))))
theorem con_law_rides (ds : List D) (h : TH) (Q : TQ) (c : c_law_rides ds h Q) : rd_law_rides { nx := fun _ h' => less Q .non h', rt := less Q } (startT 9 ds) h := by
  obtain ⟨p, wl, hi, a, b, c, ws, rfl, e, ia, ew, g, hl, h1, h2, q⟩ := c
  have pw : wl ≠ p := fun z => by
    rw [z, e] at ew
    cases ws with
    | nil => cases ew
    | cons w r => injection ew with ew; injection ew with ew; cases ew
  simp [rd_law_rides, bRet, bRetN, bChain, bBin, bVar, bC, bNil, bCons, bTup, bLst, bDnew, bB, blQ, bUn, bAnd, bOr, bNot, bTru, truD, bAndV, bOrV, bNotV, bIf, iiD, addD, subD, fdivD, modD, powD, mulD, negD, ltD, leD, gtD, geD, eqG, eqD, neD, isN, isND, notND, inG, inD, notInD, inSeq, ixD, bNo, bPart, bSl, slD, bRev, bCall, bMeth, bMake, bFld, bProp, bBlt, lenD, absD, maxD, minD, divmodD, listD, tupleD, allD, anyD, isTyD, tyNm, tyIs, isOwnD, gN, gsNil, gsCons, gT, gS, setD, bNext, bSeq, bBreak, bCont, bNever, bExpr, bIfS, bAsg, bPar, bPar3, bSetF, bAug, iT, iL, iR1, iR2, iS, iEn, bFor, bYes, bLc, bMt, tyD, appendD, extendD, popD, joinD, bLstRg, rg1, rg2, bLstZip, bCallK, dictD, sortedD, keyOf, startT, toPy, toPys, pyOf]
  refine far_ok e ia (by omega) h2 fun xs a b c l0 asc hx ia hl0 => ?_
  intro l1 hl1
  have n0p : l0 ≠ p := fun z => by rw [z, e] at hl0; cases hl0
  have n0w : l0 ≠ wl := fun z => by rw [z, ew] at hl0; cases hl0
  obtain ⟨k1, n10⟩ := put_none hl1
  obtain ⟨k2, n1p⟩ := put_none k1
  have n1w : l1 ≠ wl := fun z => by rw [z, ew] at k2; cases k2
  have base0 : put (put (put h p (pl a b c)) l0 (.lst (xs.map D.int))) l1 (.lst []) = PL (put h l0 (.lst (xs.map D.int))) p l1 a b c [] := by unfold PL; rw [put_comm n0p.symm]
  have hw0 : ∀ a b c ys, PL (put h l0 (.lst (xs.map D.int))) p l1 a b c ys wl = some (.lst (ws.map D.str)) := fun a b c ys => by unfold PL; rw [put_ne n1w.symm, put_ne pw, put_ne n0w.symm]; exact ew
  have h00 : ∀ a b c ys, PL (put h l0 (.lst (xs.map D.int))) p l1 a b c ys l0 = some (.lst (xs.map D.int)) := fun a b c ys => by unfold PL; rw [put_ne n10.symm, put_ne n0p, put_same]
  have sub0 : ∀ a b c ys, Sub (put h p (pl a b c)) (PL (put h l0 (.lst (xs.map D.int))) p l1 a b c ys) := fun a b c ys => by
    unfold PL
    exact (Sub.upd (Sub.put hl0)).trans (Sub.put (by rw [put_ne n1p, put_ne n10]; exact k2))
  rw [base0]
  simp [hw0]
  refine loop_inv _ (fun i ds' h' => ∃ (fs : List Ride) (last a b c : Int) (o3 o7 o8 : Option D), ds' = [some (.ref p), some (.ref wl), some (.int hi), o3, some (.ref l0), some (.ref l1), some (.int last), o7, o8] ∧ fs.map (·.1) = ws.take i ∧ (∀ r ∈ fs, GoodRide r) ∧ 0 ≤ last ∧ last ≤ hi ∧ InM a ∧ Sub (PL (put h l0 (.lst (xs.map D.int))) p l1 a b c (fs.map tR)) h') ?_ (fun i ds' h' _ j => ?_) (fun i x ds' h' Kn ei j kn => ?_) (fun ds' h' j => ?_)
  · exact ⟨[], 0, a, b, c, none, none, none, rfl, by simp, by simp, by omega, by omega, ia, Sub.refl _⟩
  · obtain ⟨fs, last, a, b, c, _, _, _, _, _, _, _, _, _, s⟩ := j
    exact s _ _ (hw0 _ _ _ _)
  · obtain ⟨fs, last, a, b, c, o3, o7, o8, rfl, hnm, hgood, la0, la1, ia, s⟩ := j
    rw [List.getElem?_map] at ei
    cases ei2 : ws[i]? with
    | none => rw [ei2] at ei; cases ei
    | some w =>
      rw [ei2] at ei; cases ei
      have hi' : i < ws.length := (List.getElem?_eq_some_iff.mp ei2).1
      have gw : GoodName w := g.nm w (List.mem_of_getElem? ei2)
      have fl : fs.length = i := by have := congrArg List.length hnm; simp at this; omega
      simp [bRet, bRetN, bChain, bBin, bVar, bC, bNil, bCons, bTup, bLst, bDnew, bB, blQ, bUn, bAnd, bOr, bNot, bTru, truD, bAndV, bOrV, bNotV, bIf, iiD, addD, subD, fdivD, modD, powD, mulD, negD, ltD, leD, gtD, geD, eqG, eqD, neD, isN, isND, notND, inG, inD, notInD, inSeq, ixD, bNo, bPart, bSl, slD, bRev, bCall, bMeth, bMake, bFld, bProp, bBlt, lenD, absD, maxD, minD, divmodD, listD, tupleD, allD, anyD, isTyD, tyNm, tyIs, isOwnD, gN, gsNil, gsCons, gT, gS, setD, bNext, bSeq, bBreak, bCont, bNever, bExpr, bIfS, bAsg, bPar, bPar3, bSetF, bAug, iT, iL, iR1, iR2, iS, iEn, bFor, bYes, bLc, bMt, tyD, appendD, extendD, popD, joinD, bLstRg, rg1, rg2, bLstZip, bCallK, dictD, sortedD, keyOf, startT, toPy, toPys, pyOf]
      refine draw_ok (s _ _ (PL.p n1p.symm)) ia (by decide) (by decide) fun way a b c w0 w4 ia => ?_
      have s := PL.setP n1p.symm s (a' := a) (b' := b) (c' := c)
      -- the rest, from begin on
      have fin : ∀ (bg ls a b c : Int) (h4 : TH) (o7 o8 : Option D), 0 ≤ bg → bg < ls → ls ≤ hi → InM a → Sub (PL (put h l0 (.lst (xs.map D.int))) p l1 a b c (fs.map tR)) h4 → ∀ x y, atI xs bg = some x → atI xs ls = some y → x < y → 0 ≤ x → Kn [some (.ref p), some (.ref wl), some (.int hi), some (.str w), some (.ref l0), some (.ref l1), some (.int ls), o7, o8] (put h4 l1 (.lst (fs.map tR ++ [.tup [.str w, .int x, .int y]]))) := by
        intro bg ls a b c h4 o7 o8 b0 b1 b2 ia s x y ex ey hxy h0x
        refine kn _ _ ⟨fs ++ [(w, x, y)], ls, a, b, c, _, _, _, rfl, ?_, ?_, by omega, b2, ia, ?_⟩
        · rw [List.map_append, hnm, List.take_add_one, ei2]; rfl
        · intro r hr
          rcases List.mem_append.mp hr with hr | hr
          · exact hgood r hr
          · rw [List.mem_singleton.mp hr]; exact ⟨gw, h0x, hxy⟩
        · rw [List.map_append]; exact PL.setQ s
      simp
      split
      · split
        · rename_i b1
          have b0 := la0
          clear kn hnm
          generalize last = bg at b0 b1 ⊢
          have hws : way = 0 ∨ way = 1 ∨ way = 2 ∨ way = 3 := by omega
          split
          · intro q9 hq9
            have s := s.trans (Sub.put hq9 (o := .lst [.int 1, .int 2, .int (hi - bg), .int (hi - bg)]))
            have pq : p ≠ q9 := fun z => by have := put_none hq9; exact this.2 z.symm
            rcases hws with hz | hz | hz | hz <;> simp only [hz, atI_0, atI_1, atI_2, atI_3] <;>
            · refine draw_ok (s _ _ (PL.p n1p.symm)) ia (by omega) (by omega) fun r a b c r0 r1 ia => ?_
              have s := PL.setP n1p.symm s (a' := a) (b' := b) (c' := c)
              have e1 := s _ _ PL.q
              have e0 := s _ _ (h00 _ _ _ _)
              have hls : bg < (if hi < bg + 1 + r then hi else bg + 1 + r) ∧ (if hi < bg + 1 + r then hi else bg + 1 + r) ≤ hi := by split <;> constructor <;> omega
              obtain ⟨x, y, ex, ey, hxy, h0x⟩ := asc_at asc b0 hls.1 (by omega)
              simp only [e1, e0, atI_int ex, atI_int ey, true_and, List.length_map]
              exact ⟨by omega, fin bg _ a b c _ _ _ b0 hls.1 hls.2 ia s x y ex ey hxy h0x⟩
          · refine draw_ok (s _ _ (PL.p n1p.symm)) ia (by omega) (by omega) fun r a b c r0 r1 ia => ?_
            have s := PL.setP n1p.symm s (a' := a) (b' := b) (c' := c)
            have e1 := s _ _ PL.q
            have e0 := s _ _ (h00 _ _ _ _)
            have hls : bg < (if hi < bg + 1 + r then hi else bg + 1 + r) ∧ (if hi < bg + 1 + r then hi else bg + 1 + r) ≤ hi := by split <;> constructor <;> omega
            obtain ⟨x, y, ex, ey, hxy, h0x⟩ := asc_at asc b0 hls.1 (by omega)
            simp only [e1, e0, atI_int ex, atI_int ey, true_and, List.length_map]
            exact ⟨by omega, fin bg _ a b c _ _ _ b0 hls.1 hls.2 ia s x y ex ey hxy h0x⟩
        · refine draw_ok (s _ _ (PL.p n1p.symm)) ia (by omega) (by omega) fun bg a b c b0 b1 ia => ?_
          have s := PL.setP n1p.symm s (a' := a) (b' := b) (c' := c)
          simp
          have hws : way = 0 ∨ way = 1 ∨ way = 2 ∨ way = 3 := by omega
          split
          · intro q9 hq9
            have s := s.trans (Sub.put hq9 (o := .lst [.int 1, .int 2, .int (hi - bg), .int (hi - bg)]))
            have pq : p ≠ q9 := fun z => by have := put_none hq9; exact this.2 z.symm
            rcases hws with hz | hz | hz | hz <;> simp only [hz, atI_0, atI_1, atI_2, atI_3] <;>
            · refine draw_ok (s _ _ (PL.p n1p.symm)) ia (by omega) (by omega) fun r a b c r0 r1 ia => ?_
              have s := PL.setP n1p.symm s (a' := a) (b' := b) (c' := c)
              have e1 := s _ _ PL.q
              have e0 := s _ _ (h00 _ _ _ _)
              have hls : bg < (if hi < bg + 1 + r then hi else bg + 1 + r) ∧ (if hi < bg + 1 + r then hi else bg + 1 + r) ≤ hi := by split <;> constructor <;> omega
              obtain ⟨x, y, ex, ey, hxy, h0x⟩ := asc_at asc b0 hls.1 (by omega)
              simp only [e1, e0, atI_int ex, atI_int ey, true_and, List.length_map]
              exact ⟨by omega, fin bg _ a b c _ _ _ b0 hls.1 hls.2 ia s x y ex ey hxy h0x⟩
          · refine draw_ok (s _ _ (PL.p n1p.symm)) ia (by omega) (by omega) fun r a b c r0 r1 ia => ?_
            have s := PL.setP n1p.symm s (a' := a) (b' := b) (c' := c)
            have e1 := s _ _ PL.q
            have e0 := s _ _ (h00 _ _ _ _)
            have hls : bg < (if hi < bg + 1 + r then hi else bg + 1 + r) ∧ (if hi < bg + 1 + r then hi else bg + 1 + r) ≤ hi := by split <;> constructor <;> omega
            obtain ⟨x, y, ex, ey, hxy, h0x⟩ := asc_at asc b0 hls.1 (by omega)
            simp only [e1, e0, atI_int ex, atI_int ey, true_and, List.length_map]
            exact ⟨by omega, fin bg _ a b c _ _ _ b0 hls.1 hls.2 ia s x y ex ey hxy h0x⟩
      · refine draw_ok (s _ _ (PL.p n1p.symm)) ia (by omega) (by omega) fun bg a b c b0 b1 ia => ?_
        have s := PL.setP n1p.symm s (a' := a) (b' := b) (c' := c)
        simp
        have hws : way = 0 ∨ way = 1 ∨ way = 2 ∨ way = 3 := by omega
        split
        · intro q9 hq9
          have s := s.trans (Sub.put hq9 (o := .lst [.int 1, .int 2, .int (hi - bg), .int (hi - bg)]))
          have pq : p ≠ q9 := fun z => by have := put_none hq9; exact this.2 z.symm
          rcases hws with hz | hz | hz | hz <;> simp only [hz, atI_0, atI_1, atI_2, atI_3] <;>
          · refine draw_ok (s _ _ (PL.p n1p.symm)) ia (by omega) (by omega) fun r a b c r0 r1 ia => ?_
            have s := PL.setP n1p.symm s (a' := a) (b' := b) (c' := c)
            have e1 := s _ _ PL.q
            have e0 := s _ _ (h00 _ _ _ _)
            have hls : bg < (if hi < bg + 1 + r then hi else bg + 1 + r) ∧ (if hi < bg + 1 + r then hi else bg + 1 + r) ≤ hi := by split <;> constructor <;> omega
            obtain ⟨x, y, ex, ey, hxy, h0x⟩ := asc_at asc b0 hls.1 (by omega)
            simp only [e1, e0, atI_int ex, atI_int ey, true_and, List.length_map]
            exact ⟨by omega, fin bg _ a b c _ _ _ b0 hls.1 hls.2 ia s x y ex ey hxy h0x⟩
        · refine draw_ok (s _ _ (PL.p n1p.symm)) ia (by omega) (by omega) fun r a b c r0 r1 ia => ?_
          have s := PL.setP n1p.symm s (a' := a) (b' := b) (c' := c)
          have e1 := s _ _ PL.q
          have e0 := s _ _ (h00 _ _ _ _)
          have hls : bg < (if hi < bg + 1 + r then hi else bg + 1 + r) ∧ (if hi < bg + 1 + r then hi else bg + 1 + r) ≤ hi := by split <;> constructor <;> omega
          obtain ⟨x, y, ex, ey, hxy, h0x⟩ := asc_at asc b0 hls.1 (by omega)
          simp only [e1, e0, atI_int ex, atI_int ey, true_and, List.length_map]
          exact ⟨by omega, fin bg _ a b c _ _ _ b0 hls.1 hls.2 ia s x y ex ey hxy h0x⟩
  · obtain ⟨fs, last, a, b, c, o3, o7, o8, rfl, hnm, hgood, la0, la1, ia, s⟩ := j
    have hnm : fs.map (·.1) = ws := by rw [hnm]; exact List.take_of_length_le (by simp)
    have fl : fs.length = ws.length := by have := congrArg List.length hnm; simpa using this
    have nd : (fs.map (·.1)).Nodup := by rw [hnm]; exact g.nd
    have e1 := s _ _ PL.q
    simp [bRet, bRetN, bChain, bBin, bVar, bC, bNil, bCons, bTup, bLst, bDnew, bB, blQ, bUn, bAnd, bOr, bNot, bTru, truD, bAndV, bOrV, bNotV, bIf, iiD, addD, subD, fdivD, modD, powD, mulD, negD, ltD, leD, gtD, geD, eqG, eqD, neD, isN, isND, notND, inG, inD, notInD, inSeq, ixD, bNo, bPart, bSl, slD, bRev, bCall, bMeth, bMake, bFld, bProp, bBlt, lenD, absD, maxD, minD, divmodD, listD, tupleD, allD, anyD, isTyD, tyNm, tyIs, isOwnD, gN, gsNil, gsCons, gT, gS, setD, bNext, bSeq, bBreak, bCont, bNever, bExpr, bIfS, bAsg, bPar, bPar3, bSetF, bAug, iT, iL, iR1, iR2, iS, iEn, bFor, bYes, bLc, bMt, tyD, appendD, extendD, popD, joinD, bLstRg, rg1, rg2, bLstZip, bCallK, dictD, sortedD, keyOf, startT, toPy, toPys, pyOf, e1]
    refine ⟨sortOk_rides fs (by omega), fun p9 hp9 => ?_⟩
    rw [sortD_map]
    have gr : GoodRides (byName fs) := ⟨fun r hr => hgood r ((byName_perm fs).mem_iff.mp hr), byName_asc fs nd, by rw [(byName_perm fs).length_eq]; omega⟩
    exact less_sub ((sub0 _ _ _ _).trans (s.trans (Sub.put hp9))) (q (byName fs) a b c gr (by rw [(byName_perm fs).length_eq]; exact fl) ia)
end T
set_option Elab.async false
set_option linter.all false
set_option maxRecDepth 100000
set_option maxHeartbeats 1000000
namespace T
open PySem L2 PyProof.Rows
/-! ### the law's own reckoning -/
def meetR (a b : Ride) : Bool := decide (a.2.1 < b.2.2) && decide (b.2.1 < a.2.2)
def c_law_meet : Con := fun ds h P => ∃ a b : Ride, ds = [tR a, tR b] ∧ P (.bl (meetR a b)) h
theorem meet_ok {a b : Ride} {h : TH} {P : TQ} (q : P (.bl (meetR a b)) h) : c_law_meet [tR a, tR b] h P := ⟨a, b, rfl, q⟩
def rd_law_meet : TrS := bRet (bAndV (bBin ltD (bBin ixD (bVar 0) (bC (.int 1))) (bBin ixD (bVar 1) (bC (.int 2)))) (bBin ltD (bBin ixD (bVar 1) (bC (.int 1))) (bBin ixD (bVar 0) (bC (.int 2)))))
theorem con_law_meet (ds : List D) (h : TH) (Q : TQ) (c : c_law_meet ds h Q) : rd_law_meet { nx := fun _ h' => less Q .non h', rt := less Q } (startT 2 ds) h := by
  obtain ⟨a, b, rfl, q⟩ := c
  unfold meetR at q
  by_cases z : a.2.1 < b.2.2
  · simp [rd_law_meet, bRet, bRetN, bChain, bBin, bVar, bC, bNil, bCons, bTup, bLst, bDnew, bB, blQ, bUn, bAnd, bOr, bNot, bTru, truD, bAndV, bOrV, bNotV, bIf, iiD, addD, subD, fdivD, modD, powD, mulD, negD, ltD, leD, gtD, geD, eqG, eqD, neD, isN, isND, notND, inG, inD, notInD, inSeq, ixD, bNo, bPart, bSl, slD, bRev, bCall, bMeth, bMake, bFld, bProp, bBlt, lenD, absD, maxD, minD, divmodD, listD, tupleD, allD, anyD, isTyD, tyNm, tyIs, isOwnD, gN, gsNil, gsCons, gT, gS, setD, bNext, bSeq, bBreak, bCont, bNever, bExpr, bIfS, bAsg, bPar, bPar3, bSetF, bAug, iT, iL, iR1, iR2, iS, iEn, bFor, bYes, bLc, bMt, tyD, appendD, extendD, popD, joinD, bLstRg, rg1, rg2, bLstZip, bCallK, dictD, sortedD, keyOf, startT, toPy, toPys, pyOf, z]; simpa [z] using less_of q
  · simp [rd_law_meet, bRet, bRetN, bChain, bBin, bVar, bC, bNil, bCons, bTup, bLst, bDnew, bB, blQ, bUn, bAnd, bOr, bNot, bTru, truD, bAndV, bOrV, bNotV, bIf, iiD, addD, subD, fdivD, modD, powD, mulD, negD, ltD, leD, gtD, geD, eqG, eqD, neD, isN, isND, notND, inG, inD, notInD, inSeq, ixD, bNo, bPart, bSl, slD, bRev, bCall, bMeth, bMake, bFld, bProp, bBlt, lenD, absD, maxD, minD, divmodD, listD, tupleD, allD, anyD, isTyD, tyNm, tyIs, isOwnD, gN, gsNil, gsCons, gT, gS, setD, bNext, bSeq, bBreak, bCont, bNever, bExpr, bIfS, bAsg, bPar, bPar3, bSetF, bAug, iT, iL, iR1, iR2, iS, iEn, bFor, bYes, bLc, bMt, tyD, appendD, extendD, popD, joinD, bLstRg, rg1, rg2, bLstZip, bCallK, dictD, sortedD, keyOf, startT, toPy, toPys, pyOf, z]; simpa [z] using less_of q
def c_law_by_start : Con := fun ds h P => ∃ rs : List Ride, ds = [.tup (rs.map tR)] ∧ rs.length ≤ 24 ∧ ∀ q, h q = none → P (.ref q) (put h q (.lst ((byStart rs).map tR)))
theorem law_by_start_ok {rs : List Ride} {h : TH} {P : TQ} (l : rs.length ≤ 24) (p : ∀ q, h q = none → P (.ref q) (put h q (.lst ((byStart rs).map tR)))) : c_law_by_start [.tup (rs.map tR)] h P := ⟨rs, rfl, l, p⟩
def rd_law_by_start : TrS := bSeq (bAsg (bBlt sortedD (bCons (bLc (iT (bVar 0)) (gN 3) (bYes) (bTup (bCons (bBin ixD (bVar 3) (bC (.int 1))) (bCons (bBin ixD (bVar 3) (bC (.int 0))) (bCons (bVar 3) (bNil))))) [3]) (bNil))) (gN 1)) (bRet (bLc (iL (bVar 1)) (gN 2) (bYes) (bBin ixD (bVar 2) (bC (.int 2))) [2]))
theorem con_law_by_start (ds : List D) (h : TH) (Q : TQ) (c : c_law_by_start ds h Q) : rd_law_by_start { nx := fun _ h' => less Q .non h', rt := less Q } (startT 4 ds) h := by
  obtain ⟨rs, rfl, hl, c⟩ := c
  simp [rd_law_by_start, bRet, bRetN, bChain, bBin, bVar, bC, bNil, bCons, bTup, bLst, bDnew, bB, blQ, bUn, bAnd, bOr, bNot, bTru, truD, bAndV, bOrV, bNotV, bIf, iiD, addD, subD, fdivD, modD, powD, mulD, negD, ltD, leD, gtD, geD, eqG, eqD, neD, isN, isND, notND, inG, inD, notInD, inSeq, ixD, bNo, bPart, bSl, slD, bRev, bCall, bMeth, bMake, bFld, bProp, bBlt, lenD, absD, maxD, minD, divmodD, listD, tupleD, allD, anyD, isTyD, tyNm, tyIs, isOwnD, gN, gsNil, gsCons, gT, gS, setD, bNext, bSeq, bBreak, bCont, bNever, bExpr, bIfS, bAsg, bPar, bPar3, bSetF, bAug, iT, iL, iR1, iR2, iS, iEn, bFor, bYes, bLc, bMt, tyD, appendD, extendD, popD, joinD, bLstRg, rg1, rg2, bLstZip, bCallK, dictD, sortedD, keyOf, startT, toPy, toPys, pyOf]
  intro p hp
  refine lc_map h tR tRow rs hp (by omega) (fun _ => trivial) (fun r hr acc Kn kn => ?_) ?_
  · simp [lcItem, bRet, bRetN, bChain, bBin, bVar, bC, bNil, bCons, bTup, bLst, bDnew, bB, blQ, bUn, bAnd, bOr, bNot, bTru, truD, bAndV, bOrV, bNotV, bIf, iiD, addD, subD, fdivD, modD, powD, mulD, negD, ltD, leD, gtD, geD, eqG, eqD, neD, isN, isND, notND, inG, inD, notInD, inSeq, ixD, bNo, bPart, bSl, slD, bRev, bCall, bMeth, bMake, bFld, bProp, bBlt, lenD, absD, maxD, minD, divmodD, listD, tupleD, allD, anyD, isTyD, tyNm, tyIs, isOwnD, gN, gsNil, gsCons, gT, gS, setD, bNext, bSeq, bBreak, bCont, bNever, bExpr, bIfS, bAsg, bPar, bPar3, bSetF, bAug, iT, iL, iR1, iR2, iS, iEn, bFor, bYes, bLc, bMt, tyD, appendD, extendD, popD, joinD, bLstRg, rg1, rg2, bLstZip, bCallK, dictD, sortedD, keyOf, startT, toPy, toPys, pyOf, wipeT]
    exact kn
  · simp only [put_at]
    refine ⟨sortOk_rows rs (by omega), fun p2 hp2 => ?_⟩
    rw [sortD_map]
    intro p3 hp3
    refine lc_map (put (put h p _) p2 _) tRow tR (byStart rs) hp3 (by rw [(byStart_perm rs).length_eq]; omega) (fun _ => ?_) (fun r hr acc Kn kn => ?_) ?_
    · exact put_off put_same hp3
    · simp [lcItem, bRet, bRetN, bChain, bBin, bVar, bC, bNil, bCons, bTup, bLst, bDnew, bB, blQ, bUn, bAnd, bOr, bNot, bTru, truD, bAndV, bOrV, bNotV, bIf, iiD, addD, subD, fdivD, modD, powD, mulD, negD, ltD, leD, gtD, geD, eqG, eqD, neD, isN, isND, notND, inG, inD, notInD, inSeq, ixD, bNo, bPart, bSl, slD, bRev, bCall, bMeth, bMake, bFld, bProp, bBlt, lenD, absD, maxD, minD, divmodD, listD, tupleD, allD, anyD, isTyD, tyNm, tyIs, isOwnD, gN, gsNil, gsCons, gT, gS, setD, bNext, bSeq, bBreak, bCont, bNever, bExpr, bIfS, bAsg, bPar, bPar3, bSetF, bAug, iT, iL, iR1, iR2, iS, iEn, bFor, bYes, bLc, bMt, tyD, appendD, extendD, popD, joinD, bLstRg, rg1, rg2, bLstZip, bCallK, dictD, sortedD, keyOf, startT, toPy, toPys, pyOf, wipeT]
      exact kn
    · have h3 := (put_none (put_none hp3).1).1
      exact less_sub (Sub.upd ((Sub.put hp).trans (Sub.put hp2))) (c p3 h3)
def c_law_load : Con := fun ds h P => ∃ (rs : List Ride) (x : Int), ds = [.tup (rs.map tR), .int x] ∧ rs.length ≤ 24 ∧ P (.int (loadR rs x)) h
theorem law_load_ok {rs : List Ride} {x : Int} {h : TH} {P : TQ} (l : rs.length ≤ 24) (q : P (.int (loadR rs x)) h) : c_law_load [.tup (rs.map tR), .int x] h P := ⟨rs, x, rfl, l, q⟩
def rd_law_load : TrS := bRet (bBlt lenD (bCons (bLc (iT (bVar 0)) (gN 2) (bB (bChain leD ltD (bBin ixD (bVar 2) (bC (.int 1))) (bVar 1) (bBin ixD (bVar 2) (bC (.int 2))))) (bVar 2) [2]) (bNil)))
theorem con_law_load (ds : List D) (h : TH) (Q : TQ) (c : c_law_load ds h Q) : rd_law_load { nx := fun _ h' => less Q .non h', rt := less Q } (startT 3 ds) h := by
  obtain ⟨rs, x, rfl, hl, c⟩ := c
  simp [rd_law_load, bRet, bRetN, bChain, bBin, bVar, bC, bNil, bCons, bTup, bLst, bDnew, bB, blQ, bUn, bAnd, bOr, bNot, bTru, truD, bAndV, bOrV, bNotV, bIf, iiD, addD, subD, fdivD, modD, powD, mulD, negD, ltD, leD, gtD, geD, eqG, eqD, neD, isN, isND, notND, inG, inD, notInD, inSeq, ixD, bNo, bPart, bSl, slD, bRev, bCall, bMeth, bMake, bFld, bProp, bBlt, lenD, absD, maxD, minD, divmodD, listD, tupleD, allD, anyD, isTyD, tyNm, tyIs, isOwnD, gN, gsNil, gsCons, gT, gS, setD, bNext, bSeq, bBreak, bCont, bNever, bExpr, bIfS, bAsg, bPar, bPar3, bSetF, bAug, iT, iL, iR1, iR2, iS, iEn, bFor, bYes, bLc, bMt, tyD, appendD, extendD, popD, joinD, bLstRg, rg1, rg2, bLstZip, bCallK, dictD, sortedD, keyOf, startT, toPy, toPys, pyOf]
  intro p hp
  refine lc_filter h tR (covers x) tR rs hp (by omega) (fun _ => trivial) (fun r hr acc Kn kn => ?_) ?_
  · have kn := kn _ (Sub.refl _)
    unfold covers at kn
    by_cases z : r.2.1 ≤ x
    · by_cases z2 : x < r.2.2
      · simp [lcItem, bRet, bRetN, bChain, bBin, bVar, bC, bNil, bCons, bTup, bLst, bDnew, bB, blQ, bUn, bAnd, bOr, bNot, bTru, truD, bAndV, bOrV, bNotV, bIf, iiD, addD, subD, fdivD, modD, powD, mulD, negD, ltD, leD, gtD, geD, eqG, eqD, neD, isN, isND, notND, inG, inD, notInD, inSeq, ixD, bNo, bPart, bSl, slD, bRev, bCall, bMeth, bMake, bFld, bProp, bBlt, lenD, absD, maxD, minD, divmodD, listD, tupleD, allD, anyD, isTyD, tyNm, tyIs, isOwnD, gN, gsNil, gsCons, gT, gS, setD, bNext, bSeq, bBreak, bCont, bNever, bExpr, bIfS, bAsg, bPar, bPar3, bSetF, bAug, iT, iL, iR1, iR2, iS, iEn, bFor, bYes, bLc, bMt, tyD, appendD, extendD, popD, joinD, bLstRg, rg1, rg2, bLstZip, bCallK, dictD, sortedD, keyOf, startT, toPy, toPys, pyOf, wipeT, z, z2]; simpa [z, z2] using kn
      · simp [lcItem, bRet, bRetN, bChain, bBin, bVar, bC, bNil, bCons, bTup, bLst, bDnew, bB, blQ, bUn, bAnd, bOr, bNot, bTru, truD, bAndV, bOrV, bNotV, bIf, iiD, addD, subD, fdivD, modD, powD, mulD, negD, ltD, leD, gtD, geD, eqG, eqD, neD, isN, isND, notND, inG, inD, notInD, inSeq, ixD, bNo, bPart, bSl, slD, bRev, bCall, bMeth, bMake, bFld, bProp, bBlt, lenD, absD, maxD, minD, divmodD, listD, tupleD, allD, anyD, isTyD, tyNm, tyIs, isOwnD, gN, gsNil, gsCons, gT, gS, setD, bNext, bSeq, bBreak, bCont, bNever, bExpr, bIfS, bAsg, bPar, bPar3, bSetF, bAug, iT, iL, iR1, iR2, iS, iEn, bFor, bYes, bLc, bMt, tyD, appendD, extendD, popD, joinD, bLstRg, rg1, rg2, bLstZip, bCallK, dictD, sortedD, keyOf, startT, toPy, toPys, pyOf, wipeT, z, z2]; simpa [z, z2] using kn
    · simp [lcItem, bRet, bRetN, bChain, bBin, bVar, bC, bNil, bCons, bTup, bLst, bDnew, bB, blQ, bUn, bAnd, bOr, bNot, bTru, truD, bAndV, bOrV, bNotV, bIf, iiD, addD, subD, fdivD, modD, powD, mulD, negD, ltD, leD, gtD, geD, eqG, eqD, neD, isN, isND, notND, inG, inD, notInD, inSeq, ixD, bNo, bPart, bSl, slD, bRev, bCall, bMeth, bMake, bFld, bProp, bBlt, lenD, absD, maxD, minD, divmodD, listD, tupleD, allD, anyD, isTyD, tyNm, tyIs, isOwnD, gN, gsNil, gsCons, gT, gS, setD, bNext, bSeq, bBreak, bCont, bNever, bExpr, bIfS, bAsg, bPar, bPar3, bSetF, bAug, iT, iL, iR1, iR2, iS, iEn, bFor, bYes, bLc, bMt, tyD, appendD, extendD, popD, joinD, bLstRg, rg1, rg2, bLstZip, bCallK, dictD, sortedD, keyOf, startT, toPy, toPys, pyOf, wipeT, z]; simpa [z] using kn
  · simp
    exact less_sub (Sub.put hp) c
def loads (rs : List Ride) : List Int := rs.map fun r => (loadR rs r.2.1 : Int)
def peakR (rs : List Ride) : Int := ((loads rs ++ [0]).max?).getD 0
theorem peak_max (rs : List Ride) : (loads rs ++ [0]).max? = some (peakR rs) := by
  unfold peakR
  cases e : (loads rs ++ [0]).max? with
  | none => have := List.max?_eq_none_iff.mp e; simp at this
  | some m => rfl
theorem peak_ge (rs : List Ride) : NoOver (peakR rs) rs := fun r hr => (List.max?_eq_some_iff.mp (peak_max rs)).2 _ (List.mem_append_left _ (List.mem_map.mpr ⟨r, hr, rfl⟩))
theorem peak_le (rs : List Ride) : 0 ≤ peakR rs ∧ peakR rs ≤ rs.length := by
  obtain ⟨m, g⟩ := List.max?_eq_some_iff.mp (peak_max rs)
  refine ⟨g 0 (by simp), ?_⟩
  rcases List.mem_append.mp m with m | m
  · obtain ⟨r, _, e⟩ := List.mem_map.mp m
    rw [← e]
    have : loadR rs r.2.1 ≤ rs.length := List.length_filter_le _ _
    omega
  · rw [List.mem_singleton.mp m]; omega
def c_law_peak : Con := fun ds h P => ∃ rs : List Ride, ds = [.tup (rs.map tR)] ∧ rs.length ≤ 24 ∧ P (.int (peakR rs)) h
theorem peak_ok {rs : List Ride} {h : TH} {P : TQ} (l : rs.length ≤ 24) (q : P (.int (peakR rs)) h) : c_law_peak [.tup (rs.map tR)] h P := ⟨rs, rfl, l, q⟩
def rd_law_peak : TrS := bRet (bBlt maxD (bCons (bBin addD (bLc (iT (bVar 0)) (gN 1) (bYes) (bCall c_law_load [] (bCons (bVar 0) (bCons (bBin ixD (bVar 1) (bC (.int 1))) (bNil)))) [1]) (bLst (bCons (bC (.int 0)) (bNil)))) (bNil)))
theorem con_law_peak (ds : List D) (h : TH) (Q : TQ) (c : c_law_peak ds h Q) : rd_law_peak { nx := fun _ h' => less Q .non h', rt := less Q } (startT 2 ds) h := by
  obtain ⟨rs, rfl, hl, c⟩ := c
  simp [rd_law_peak, bRet, bRetN, bChain, bBin, bVar, bC, bNil, bCons, bTup, bLst, bDnew, bB, blQ, bUn, bAnd, bOr, bNot, bTru, truD, bAndV, bOrV, bNotV, bIf, iiD, addD, subD, fdivD, modD, powD, mulD, negD, ltD, leD, gtD, geD, eqG, eqD, neD, isN, isND, notND, inG, inD, notInD, inSeq, ixD, bNo, bPart, bSl, slD, bRev, bCall, bMeth, bMake, bFld, bProp, bBlt, lenD, absD, maxD, minD, divmodD, listD, tupleD, allD, anyD, isTyD, tyNm, tyIs, isOwnD, gN, gsNil, gsCons, gT, gS, setD, bNext, bSeq, bBreak, bCont, bNever, bExpr, bIfS, bAsg, bPar, bPar3, bSetF, bAug, iT, iL, iR1, iR2, iS, iEn, bFor, bYes, bLc, bMt, tyD, appendD, extendD, popD, joinD, bLstRg, rg1, rg2, bLstZip, bCallK, dictD, sortedD, keyOf, startT, toPy, toPys, pyOf]
  intro p hp
  refine lc_map h tR (fun r => .int (loadR rs r.2.1)) rs hp (by omega) (fun _ => trivial) (fun r hr acc Kn kn => ?_) ?_
  · simp [lcItem, bRet, bRetN, bChain, bBin, bVar, bC, bNil, bCons, bTup, bLst, bDnew, bB, blQ, bUn, bAnd, bOr, bNot, bTru, truD, bAndV, bOrV, bNotV, bIf, iiD, addD, subD, fdivD, modD, powD, mulD, negD, ltD, leD, gtD, geD, eqG, eqD, neD, isN, isND, notND, inG, inD, notInD, inSeq, ixD, bNo, bPart, bSl, slD, bRev, bCall, bMeth, bMake, bFld, bProp, bBlt, lenD, absD, maxD, minD, divmodD, listD, tupleD, allD, anyD, isTyD, tyNm, tyIs, isOwnD, gN, gsNil, gsCons, gT, gS, setD, bNext, bSeq, bBreak, bCont, bNever, bExpr, bIfS, bAsg, bPar, bPar3, bSetF, bAug, iT, iL, iR1, iR2, iS, iEn, bFor, bYes, bLc, bMt, tyD, appendD, extendD, popD, joinD, bLstRg, rg1, rg2, bLstZip, bCallK, dictD, sortedD, keyOf, startT, toPy, toPys, pyOf, wipeT]
    exact law_load_ok hl kn
  · intro p2 hp2
    have n12 : p ≠ p2 := fun z => by rw [z, put_same] at hp2; cases hp2
    simp only [put_ne n12, put_same]
    refine ⟨by simp; omega, fun p3 hp3 => ?_⟩
    have e : ((rs.map fun r => D.int (loadR rs r.2.1)) ++ [.int 0]) = (loads rs ++ [0]).map D.int := by unfold loads; simp
    rw [e]
    simp only [put_at, intsOf_map, peak_max]
    exact less_sub (((Sub.put hp).trans (Sub.put hp2)).trans (Sub.put hp3)) c
/-! ### plans under way: name, seat, in the order of the dict -/
abbrev Held := List (Str × Int)
def encH (hd : Held) : List (Key × D) := hd.map fun p => (.inr p.1, .int p.2)
def getH (hd : Held) (n : Str) : Option Int := (hd.find? fun p => decide (p.1 = n)).map (·.2)
theorem getK_encH (hd : Held) (n : Str) : getK (encH hd) (.inr n) = (getH hd n).map D.int := by
  unfold getK getH encH
  induction hd with
  | nil => rfl
  | cons p r ih =>
    rw [List.map_cons, List.find?_cons, List.find?_cons]
    by_cases e : p.1 = n
    · have e1 : decide (p.1 = n) = true := decide_eq_true e
      have e2 : decide ((Sum.inr p.1 : Key) = .inr n) = true := decide_eq_true (by rw [e])
      rw [e1, e2]; rfl
    · have e1 : decide (p.1 = n) = false := decide_eq_false e
      have e2 : decide ((Sum.inr p.1 : Key) = .inr n) = false := decide_eq_false (fun z => e (Sum.inr.inj z))
      rw [e1, e2]; exact ih
def takenR (rs : List Ride) (hd : Held) (r : Ride) : List Int := rs.filterMap fun e => if (getH hd e.1).isSome && meetR e r then getH hd e.1 else none
def choicesR (w : Int) (rs : List Ride) (hd : Held) (r : Ride) : List Int := ((List.range w.toNat).map fun i : Nat => 1 + (i : Int)).filter fun s => !(decide (s ∈ takenR rs hd r))
def c_law_choices : Con := fun ds h P => ∃ (w : Int) (rs : List Ride) (d : Addr) (hd : Held) (r : Ride), ds = [.int w, .tup (rs.map tR), .ref d, tR r] ∧ rs.length ≤ 24 ∧ 0 ≤ w ∧ w ≤ 30 ∧ h d = some (.dct (encH hd)) ∧ ∀ q, h q = none → P (.ref q) (put h q (.lst ((choicesR w rs hd r).map D.int)))
theorem choices_ok {w : Int} {rs : List Ride} {d : Addr} {hd : Held} {r : Ride} {h : TH} {P : TQ} (l : rs.length ≤ 24) (w0 : 0 ≤ w) (w1 : w ≤ 30) (e : h d = some (.dct (encH hd))) (q : ∀ q, h q = none → P (.ref q) (put h q (.lst ((choicesR w rs hd r).map D.int)))) : c_law_choices [.int w, .tup (rs.map tR), .ref d, tR r] h P := ⟨w, rs, d, hd, r, rfl, l, w0, w1, e, q⟩
theorem notIn_ints {i : Int} {p : Addr} {xs : List Int} {h : TH} {P : TQ} (e : h p = some (.lst (xs.map D.int))) (q : P (.bl (!decide (i ∈ xs))) h) : notInD (.int i) (.ref p) h P := by
  have e1 : toPys (xs.map D.int) = some (xs.map PyData.int) := by
    clear e q
    induction xs with
    | nil => rfl
    | cons x r ih => show (match toPy (.int x), toPys (r.map D.int) with | some x, some xs => some (x :: xs) | _, _ => none) = _; rw [ih]; rfl
  have e2 : ((xs.map PyData.int).any fun z => PyData.eqv z (.int i)) = decide (i ∈ xs) := by
    clear e q e1
    induction xs with
    | nil => rfl
    | cons x r ih =>
      rw [List.map_cons, List.any_cons, ih]
      have e3 : PyData.eqv (.int x) (.int i) = decide (x = i) := by
        by_cases z : x = i <;> simp [PyData.eqv, z]
      rw [e3]
      by_cases z : x = i
      · simp [z]
      · have z' : ¬ i = x := fun y => z y.symm
        simp [z, z']
  have e3 : SeqAt.shaped (.list (xs.map PyData.int)) = true := by
    have k1 : PyData.canLayAll0 (xs.map PyData.int) = true := by
      clear e q e1 e2
      induction xs with
      | nil => rfl
      | cons x r ih => simp [PyData.canLayAll0, PyData.canLay0, ih]
    have k2 : PyData.depthAll (xs.map PyData.int) = 0 := PySem.W.depth_ints xs
    simp [SeqAt.shaped, PyData.canLay0, PyData.depth, k1, k2]
  show inG true (.int i) (.ref p) h P
  simp only [inG, e, inSeq, pyOf, toPy, e1]
  refine ⟨by simp [SeqAt.shaped, PyData.canLay0, PyData.depth], e3, ?_⟩
  rw [e2]; exact q
def rd_law_choices : TrS := bSeq (bAsg (bLc (iT (bVar 1)) (gN 5) (bAnd (bB (bBin inD (bBin ixD (bVar 5) (bC (.int 0))) (bVar 2))) (bTru (bCall c_law_meet [] (bCons (bVar 5) (bCons (bVar 3) (bNil)))))) (bBin ixD (bVar 2) (bBin ixD (bVar 5) (bC (.int 0)))) [5]) (gN 4)) (bRet (bLc (iR2 (bCons (bC (.int 1)) (bCons (bBin addD (bVar 0) (bC (.int 1))) (bNil)))) (gN 6) (bB (bBin notInD (bVar 6) (bVar 4))) (bVar 6) [6]))
theorem con_law_choices (ds : List D) (h : TH) (Q : TQ) (c : c_law_choices ds h Q) : rd_law_choices { nx := fun _ h' => less Q .non h', rt := less Q } (startT 7 ds) h := by
  obtain ⟨w, rs, d, hd, r, rfl, hl, w0, w1, e, c⟩ := c
  simp [rd_law_choices, bRet, bRetN, bChain, bBin, bVar, bC, bNil, bCons, bTup, bLst, bDnew, bB, blQ, bUn, bAnd, bOr, bNot, bTru, truD, bAndV, bOrV, bNotV, bIf, iiD, addD, subD, fdivD, modD, powD, mulD, negD, ltD, leD, gtD, geD, eqG, eqD, neD, isN, isND, notND, inG, inD, notInD, inSeq, ixD, bNo, bPart, bSl, slD, bRev, bCall, bMeth, bMake, bFld, bProp, bBlt, lenD, absD, maxD, minD, divmodD, listD, tupleD, allD, anyD, isTyD, tyNm, tyIs, isOwnD, gN, gsNil, gsCons, gT, gS, setD, bNext, bSeq, bBreak, bCont, bNever, bExpr, bIfS, bAsg, bPar, bPar3, bSetF, bAug, iT, iL, iR1, iR2, iS, iEn, bFor, bYes, bLc, bMt, tyD, appendD, extendD, popD, joinD, bLstRg, rg1, rg2, bLstZip, bCallK, dictD, sortedD, keyOf, startT, toPy, toPys, pyOf]
  intro p hp
  have nd : d ≠ p := fun z => by rw [z, hp] at e; cases e
  have key : lcR p (fun _ => True) (gN 5) (bAnd (bB (bBin (inG false) (bBin ixD (bVar 5) (bC (.int 0))) (bVar 2))) (bTru (bCall c_law_meet [] (bCons (bVar 5) (bCons (bVar 3) bNil))))) (bBin ixD (bVar 2) (bBin ixD (bVar 5) (bC (.int 0)))) = lcR p (fun _ => True) (gN 5) (bAnd (bB (bBin (inG false) (bBin ixD (bVar 5) (bC (.int 0))) (bVar 2))) (bTru (bCall c_law_meet [] (bCons (bVar 5) (bCons (bVar 3) bNil))))) (bBin ixD (bVar 2) (bBin ixD (bVar 5) (bC (.int 0)))) := rfl
  refine lc_filter h tR (fun e => (getH hd e.1).isSome && meetR e r) (fun e => .int ((getH hd e.1).getD 0)) rs hp (by omega) (fun _ => trivial) (fun x hx acc Kn kn => ?_) ?_
  · have kn := kn _ (Sub.refl _)
    simp [lcItem, bRet, bRetN, bChain, bBin, bVar, bC, bNil, bCons, bTup, bLst, bDnew, bB, blQ, bUn, bAnd, bOr, bNot, bTru, truD, bAndV, bOrV, bNotV, bIf, iiD, addD, subD, fdivD, modD, powD, mulD, negD, ltD, leD, gtD, geD, eqG, eqD, neD, isN, isND, notND, inG, inD, notInD, inSeq, ixD, bNo, bPart, bSl, slD, bRev, bCall, bMeth, bMake, bFld, bProp, bBlt, lenD, absD, maxD, minD, divmodD, listD, tupleD, allD, anyD, isTyD, tyNm, tyIs, isOwnD, gN, gsNil, gsCons, gT, gS, setD, bNext, bSeq, bBreak, bCont, bNever, bExpr, bIfS, bAsg, bPar, bPar3, bSetF, bAug, iT, iL, iR1, iR2, iS, iEn, bFor, bYes, bLc, bMt, tyD, appendD, extendD, popD, joinD, bLstRg, rg1, rg2, bLstZip, bCallK, dictD, sortedD, keyOf, startT, toPy, toPys, pyOf, wipeT, put_ne nd, e, getK_encH]
    cases q : getH hd x.1 with
    | none => simpa [q] using kn
    | some i =>
      simp
      refine meet_ok ?_
      simp
      by_cases z : meetR x r = true
      · simpa [q, z, put_ne nd, e, getK_encH] using kn
      · simpa [q, z, put_ne nd, e, getK_encH] using kn
  · have et : ((rs.filter fun e => (getH hd e.1).isSome && meetR e r).map fun e => D.int ((getH hd e.1).getD 0)) = (takenR rs hd r).map D.int := by
      unfold takenR
      clear c hl e nd hp key
      induction rs with
      | nil => rfl
      | cons x rs ih =>
        rw [List.filterMap_cons, List.filter_cons]
        by_cases z : ((getH hd x.1).isSome && meetR x r) = true
        · rw [if_pos z, if_pos z]
          cases q : getH hd x.1 with
          | none => rw [q] at z; simp at z
          | some i => simp only [List.map_cons, q, Option.getD_some, ih]
        · rw [if_neg z, if_neg z]; exact ih
    rw [et]
    try simp
    refine ⟨⟨by omega, by omega⟩, fun p2 hp2 => ?_⟩
    have n12 : p ≠ p2 := fun z => by rw [z, put_same] at hp2; cases hp2
    have eu : upTo 1 w.toNat = ((List.range w.toNat).map fun i : Nat => 1 + (i : Int)).map D.int := by unfold upTo; rw [List.map_map]; rfl
    rw [eu]
    refine lc_filter (put h p _) D.int (fun s => !(decide (s ∈ takenR rs hd r))) D.int _ hp2 (by simp; omega) (fun _ => trivial) (fun x hx acc Kn kn => ?_) ?_
    · have kn := kn _ (Sub.refl _)
      simp only [lcItem, bB, bBin, bVar, gN, wipeT]
      simp
      refine notIn_ints (p := p) (xs := takenR rs hd r) (by rw [put_ne n12, put_same]) ?_
      simp [blQ]
      by_cases z : x ∈ takenR rs hd r
      · simpa [z] using kn
      · simpa [z] using kn
    · exact less_sub (Sub.upd (Sub.put hp)) (c p2 (put_none hp2).1)
end T
set_option Elab.async false
set_option linter.all false
set_option maxRecDepth 100000
set_option maxHeartbeats 1000000
namespace T
open PySem L2 PyProof.Rows
/-! ### plans as tuples -/
abbrev tPI (p : Str × Int) : D := .tup [.str p.1, .int p.2]
def flatH (hd : Held) : Held := (sortS (hd.map (·.1))).map fun n => (n, (getH hd n).getD 0)
theorem getH_mem {hd : Held} {n : Str} (h : n ∈ hd.map (·.1)) : ∃ i, getH hd n = some i := by
  unfold getH
  obtain ⟨p, hp, e⟩ := List.mem_map.mp h
  cases q : hd.find? (fun p => decide (p.1 = n)) with
  | some x => exact ⟨x.2, rfl⟩
  | none => have := List.find?_eq_none.mp q p hp; simp [e] at this
def c_law_flat : Con := fun ds h P => ∃ (d : Addr) (hd : Held), ds = [.ref d] ∧ h d = some (.dct (encH hd)) ∧ hd.length < 64 ∧ P (.tup ((flatH hd).map tPI)) h
theorem flat_ok {d : Addr} {hd : Held} {h : TH} {P : TQ} (e : h d = some (.dct (encH hd))) (l : hd.length < 64) (q : P (.tup ((flatH hd).map tPI)) h) : c_law_flat [.ref d] h P := ⟨d, hd, rfl, e, l, q⟩
def rd_law_flat : TrS := bRet (bBlt tupleD (bCons (bLc (iL (bBlt sortedD (bCons (bVar 0) (bNil)))) (gN 1) (bYes) (bTup (bCons (bVar 1) (bCons (bBin ixD (bVar 0) (bVar 1)) (bNil)))) [1]) (bNil)))
theorem con_law_flat (ds : List D) (h : TH) (Q : TQ) (c : c_law_flat ds h Q) : rd_law_flat { nx := fun _ h' => less Q .non h', rt := less Q } (startT 2 ds) h := by
  obtain ⟨d, hd, rfl, e, l, c⟩ := c
  simp [rd_law_flat, bRet, bRetN, bChain, bBin, bVar, bC, bNil, bCons, bTup, bLst, bDnew, bB, blQ, bUn, bAnd, bOr, bNot, bTru, truD, bAndV, bOrV, bNotV, bIf, iiD, addD, subD, fdivD, modD, powD, mulD, negD, ltD, leD, gtD, geD, eqG, eqD, neD, isN, isND, notND, inG, inD, notInD, inSeq, ixD, bNo, bPart, bSl, slD, bRev, bCall, bMeth, bMake, bFld, bProp, bBlt, lenD, absD, maxD, minD, divmodD, listD, tupleD, allD, anyD, isTyD, tyNm, tyIs, isOwnD, gN, gsNil, gsCons, gT, gS, setD, bNext, bSeq, bBreak, bCont, bNever, bExpr, bIfS, bAsg, bPar, bPar3, bSetF, bAug, iT, iL, iR1, iR2, iS, iEn, bFor, bYes, bLc, bMt, tyD, appendD, extendD, popD, joinD, bLstRg, rg1, rg2, bLstZip, bCallK, dictD, sortedD, keyOf, startT, toPy, toPys, pyOf, e]
  refine ⟨hd.map (·.1), by unfold encH; rw [List.map_map, List.map_map]; rfl, by rw [List.length_map]; exact l, fun p hp => ?_⟩
  intro p2 hp2
  have nd : d ≠ p := fun z => by rw [z, hp] at e; cases e
  have nd2 : d ≠ p2 := fun z => by have := (put_none hp2).1; rw [← z, e] at this; cases this
  refine lc_map (put h p _) D.str (fun n => .tup [.str n, .int ((getH hd n).getD 0)]) (sortS (hd.map (·.1))) hp2 (by rw [(sortS_perm _).length_eq, List.length_map]; omega) (fun _ => ?_) (fun n hn acc Kn kn => ?_) ?_
  · exact put_off put_same hp2
  · obtain ⟨i, ei⟩ := getH_mem ((sortS_perm _).mem_iff.mp hn)
    simp [lcItem, bRet, bRetN, bChain, bBin, bVar, bC, bNil, bCons, bTup, bLst, bDnew, bB, blQ, bUn, bAnd, bOr, bNot, bTru, truD, bAndV, bOrV, bNotV, bIf, iiD, addD, subD, fdivD, modD, powD, mulD, negD, ltD, leD, gtD, geD, eqG, eqD, neD, isN, isND, notND, inG, inD, notInD, inSeq, ixD, bNo, bPart, bSl, slD, bRev, bCall, bMeth, bMake, bFld, bProp, bBlt, lenD, absD, maxD, minD, divmodD, listD, tupleD, allD, anyD, isTyD, tyNm, tyIs, isOwnD, gN, gsNil, gsCons, gT, gS, setD, bNext, bSeq, bBreak, bCont, bNever, bExpr, bIfS, bAsg, bPar, bPar3, bSetF, bAug, iT, iL, iR1, iR2, iS, iEn, bFor, bYes, bLc, bMt, tyD, appendD, extendD, popD, joinD, bLstRg, rg1, rg2, bLstZip, bCallK, dictD, sortedD, keyOf, startT, toPy, toPys, pyOf, wipeT, put_ne nd, put_ne nd2, e, getK_encH, ei]
    rw [ei] at kn
    exact kn
  · have e1 : ((sortS (hd.map (·.1))).map fun n => D.tup [.str n, .int ((getH hd n).getD 0)]) = (flatH hd).map tPI := by unfold flatH; rw [List.map_map]; rfl
    rw [e1]
    simp only [put_at]
    exact less_sub ((Sub.put hp).trans (Sub.put hp2)) c
/-! ### all plans -/
def stepP (w : Int) (rs : List Ride) (r : Ride) (pls : List Held) : List Held := pls.flatMap fun hd => (choicesR w rs hd r).map fun s => hd ++ [(r.1, s)]
def plansK (w : Int) (rs l : List Ride) : List Held := l.foldl (fun pls r => stepP w rs r pls) [[]]
theorem plansK_snoc (w : Int) (rs l : List Ride) (r : Ride) : plansK w rs (l ++ [r]) = stepP w rs r (plansK w rs l) := by unfold plansK; rw [List.foldl_append]; rfl
theorem choices_len (w : Int) (rs : List Ride) (hd : Held) (r : Ride) : (choicesR w rs hd r).length ≤ w.toNat := by
  unfold choicesR
  refine Nat.le_trans (List.length_filter_le _ _) ?_
  simp
theorem plansK_names (w : Int) (rs : List Ride) : ∀ (n : Nat) (l : List Ride), l.length = n → ∀ hd ∈ plansK w rs l, hd.map (·.1) = l.map (·.1) := by
  intro n
  induction n with
  | zero =>
    intro l e hd h
    have : l = [] := List.eq_nil_of_length_eq_zero e
    subst this
    have h : hd ∈ [([] : Held)] := h
    rw [List.mem_singleton.mp h]; rfl
  | succ n ih =>
    intro l e hd h
    obtain ⟨l', r, rfl⟩ : ∃ l' r, l = l' ++ [r] := by
      have hne : l ≠ [] := fun z => by rw [z] at e; cases e
      exact ⟨l.dropLast, l.getLast hne, (List.dropLast_concat_getLast hne).symm⟩
    rw [plansK_snoc] at h
    unfold stepP at h
    obtain ⟨hd', h1, h2⟩ := List.mem_flatMap.mp h
    obtain ⟨s, _, rfl⟩ := List.mem_map.mp h2
    rw [List.map_append, List.map_append, ih l' (by simpa using e) hd' h1]; rfl
theorem step_len (w : Int) (rs : List Ride) (r : Ride) (hw : w ≤ 6) : ∀ pls : List Held, (stepP w rs r pls).length ≤ pls.length * 6
  | [] => by simp [stepP]
  | hd :: pls => by
    have ih := step_len w rs r hw pls
    have c := choices_len w rs hd r
    unfold stepP at ih ⊢
    rw [List.flatMap_cons, List.length_append, List.length_map, List.length_cons]
    omega
theorem plansK_len (w : Int) (rs : List Ride) (hw : w ≤ 6) : ∀ (n : Nat) (l : List Ride), l.length = n → (plansK w rs l).length ≤ 6 ^ n := by
  intro n
  induction n with
  | zero =>
    intro l e
    have : l = [] := List.eq_nil_of_length_eq_zero e
    subst this
    exact Nat.le_refl 1
  | succ n ih =>
    intro l e
    obtain ⟨l', r, rfl⟩ : ∃ l' r, l = l' ++ [r] := by
      have hne : l ≠ [] := fun z => by rw [z] at e; cases e
      exact ⟨l.dropLast, l.getLast hne, (List.dropLast_concat_getLast hne).symm⟩
    rw [plansK_snoc]
    have h1 := step_len w rs r hw (plansK w rs l')
    have h2 := ih l' (by simpa using e)
    rw [Nat.pow_succ]
    omega
/-- dicts that stand there -/
inductive DA (h : TH) : List Addr → List Held → Prop
  | nil : DA h [] []
  | cons {a : Addr} {hd : Held} {ps : List Addr} {hs : List Held} : h a = some (.dct (encH hd)) → DA h ps hs → DA h (a :: ps) (hd :: hs)
theorem DA.sub {h h' : TH} (s : Sub h h') : ∀ {ps : List Addr} {hs : List Held}, DA h ps hs → DA h' ps hs
  | _, _, .nil => .nil
  | _, _, .cons a t => .cons (s _ _ a) (t.sub s)
theorem DA.length {h : TH} : ∀ {ps : List Addr} {hs : List Held}, DA h ps hs → ps.length = hs.length
  | _, _, .nil => rfl
  | _, _, .cons a t => congrArg Nat.succ t.length
theorem DA.get {h : TH} : ∀ {ps : List Addr} {hs : List Held} {i : Nat} {a : Addr}, DA h ps hs → ps[i]? = some a → ∃ hd, hs[i]? = some hd ∧ h a = some (.dct (encH hd))
  | _, _, _, _, .nil, e => by simp at e
  | _, _, 0, _, .cons a t, e => by simp at e; subst e; exact ⟨_, rfl, a⟩
  | _, _, i + 1, _, .cons a t, e => by
    obtain ⟨hd, e1, e2⟩ := t.get (i := i) (by simpa using e)
    exact ⟨hd, by simpa using e1, e2⟩
theorem DA.snoc {h : TH} {a : Addr} {hd : Held} (e : h a = some (.dct (encH hd))) : ∀ {ps : List Addr} {hs : List Held}, DA h ps hs → DA h (ps ++ [a]) (hs ++ [hd])
  | _, _, .nil => .cons e .nil
  | _, _, .cons a t => .cons a (t.snoc e)
theorem DA.off {h : TH} {b : Addr} {xs : List D} {o : O} (e : h b = some (.lst xs)) : ∀ {ps : List Addr} {hs : List Held}, DA h ps hs → DA (put h b o) ps hs
  | _, _, .nil => .nil
  | _, _, .cons a t => .cons (by rw [put_ne (fun z => by rw [z, e] at a; cases a)]; exact a) (t.off e)
theorem setK_new {hd : Held} {n : Str} {i : Int} (h : n ∉ hd.map (·.1)) : setK (encH hd) (.inr n) (.int i) = encH (hd ++ [(n, i)]) := by
  unfold setK
  have e : ((encH hd).any fun kv => decide (kv.1 = .inr n)) = false := by
    rw [List.any_eq_false]
    intro x hx
    obtain ⟨p, hp, rfl⟩ := List.mem_map.mp hx
    simp
    intro z
    exact h (List.mem_map.mpr ⟨p, hp, z⟩)
  rw [e, if_neg Bool.false_ne_true]
  unfold encH
  rw [List.map_append]; rfl
def allP (w : Int) (rs : List Ride) : List Held := (plansK w rs (byStart rs)).map flatH
def c_law_all_plans : Con := fun ds h P => ∃ (w : Int) (rs : List Ride), ds = [.int w, .tup (rs.map tR)] ∧ GoodRides rs ∧ rs.length ≤ 6 ∧ 0 ≤ w ∧ w ≤ 6 ∧ ∀ q, h q = none → P (.ref q) (put h q (.lst ((allP w rs).map fun pl => .tup (pl.map tPI))))
theorem all_plans_ok {w : Int} {rs : List Ride} {h : TH} {P : TQ} (g : GoodRides rs) (l : rs.length ≤ 6) (w0 : 0 ≤ w) (w1 : w ≤ 6) (q : ∀ q, h q = none → P (.ref q) (put h q (.lst ((allP w rs).map fun pl => .tup (pl.map tPI))))) : c_law_all_plans [.int w, .tup (rs.map tR)] h P := ⟨w, rs, rfl, g, l, w0, w1, q⟩
def rd_law_all_plans : TrS := bSeq (bAsg (bLst (bCons (bDnew) (bNil))) (gN 2)) (bSeq (bFor (iL (bCall c_law_by_start [] (bCons (bVar 1) (bNil)))) (gN 3) (bSeq (bAsg (bLst (bNil)) (gN 4)) (bSeq (bFor (iL (bVar 2)) (gN 5) (bFor (iL (bCall c_law_choices [] (bCons (bVar 0) (bCons (bVar 1) (bCons (bVar 5) (bCons (bVar 3) (bNil))))))) (gN 6) (bSeq (bAsg (bBlt dictD (bCons (bVar 5) (bNil))) (gN 7)) (bSeq (bAsg (bVar 6) (gS (bVar 7) (bBin ixD (bVar 3) (bC (.int 0))))) (bExpr (bMt "list" appendD (bVar 4) (bCons (bVar 7) (bNil)))))))) (bAsg (bVar 4) (gN 2))))) (bRet (bLc (iL (bVar 2)) (gN 5) (bYes) (bCall c_law_flat [] (bCons (bVar 5) (bNil))) [5])))
theorem con_law_all_plans (ds : List D) (h : TH) (Q : TQ) (c : c_law_all_plans ds h Q) : rd_law_all_plans { nx := fun _ h' => less Q .non h', rt := less Q } (startT 8 ds) h := by
  obtain ⟨w, rs, rfl, g, hl, w0, w1, c⟩ := c
  have bl : (byStart rs).length = rs.length := (byStart_perm rs).length_eq
  have nd : ((byStart rs).map (·.1)).Nodup := by
    refine (((byStart_perm rs).map (·.1)).nodup_iff).mpr ?_
    exact List.pairwise_map.mpr (g.asc.imp fun {a b} z e => by rw [e, ltS_irrefl] at z; cases z)
  simp [rd_law_all_plans, bRet, bRetN, bChain, bBin, bVar, bC, bNil, bCons, bTup, bLst, bDnew, bB, blQ, bUn, bAnd, bOr, bNot, bTru, truD, bAndV, bOrV, bNotV, bIf, iiD, addD, subD, fdivD, modD, powD, mulD, negD, ltD, leD, gtD, geD, eqG, eqD, neD, isN, isND, notND, inG, inD, notInD, inSeq, ixD, bNo, bPart, bSl, slD, bRev, bCall, bMeth, bMake, bFld, bProp, bBlt, lenD, absD, maxD, minD, divmodD, listD, tupleD, allD, anyD, isTyD, tyNm, tyIs, isOwnD, gN, gsNil, gsCons, gT, gS, setD, bNext, bSeq, bBreak, bCont, bNever, bExpr, bIfS, bAsg, bPar, bPar3, bSetF, bAug, iT, iL, iR1, iR2, iS, iEn, bFor, bYes, bLc, bMt, tyD, appendD, extendD, popD, joinD, bLstRg, rg1, rg2, bLstZip, bCallK, dictD, sortedD, keyOf, startT, toPy, toPys, pyOf]
  intro p0 hp0 p1 hp1
  refine law_by_start_ok (by omega) fun lb hlb => ?_
  simp
  -- ahead of the i-th ride
  refine loop_inv _ (fun i ds' h' => ∃ (ll : Addr) (ps : List Addr) (o3 o4 o5 o6 o7 : Option D), ds' = [some (.int w), some (.tup (rs.map tR)), some (.ref ll), o3, o4, o5, o6, o7] ∧ h' ll = some (.lst (ps.map D.ref)) ∧ DA h' ps (plansK w rs ((byStart rs).take i)) ∧ Sub h h' ∧ h' lb = some (.lst ((byStart rs).map tR))) ?_ (fun i ds' h' _ j => ?_) (fun i x ds' h' Kn ei j kn => ?_) (fun ds' h' j => ?_)
  · refine ⟨p1, [p0], none, none, none, none, none, rfl, put_off put_same hlb, .cons ?_ .nil, ((Sub.put hp0).trans (Sub.put hp1)).trans (Sub.put hlb), put_same⟩
    exact put_off (put_off put_same hp1) hlb
  · obtain ⟨_, _, _, _, _, _, _, _, _, _, _, z⟩ := j; exact z
  · obtain ⟨ll, ps, o3, o4, o5, o6, o7, rfl, ell, da, s, elb⟩ := j
    rw [List.getElem?_map] at ei
    cases er : (byStart rs)[i]? with
    | none => rw [er] at ei; cases ei
    | some r =>
      rw [er] at ei; cases ei
      have hi : i < (byStart rs).length := (List.getElem?_eq_some_iff.mp er).1
      have et : (byStart rs).take (i + 1) = (byStart rs).take i ++ [r] := by rw [List.take_add_one, er]; rfl
      have hnames := plansK_names w rs i ((byStart rs).take i) (by rw [List.length_take]; omega)
      have hplen : (plansK w rs ((byStart rs).take i)).length ≤ 7776 := Nat.le_trans (plansK_len w rs w1 i _ (by rw [List.length_take]; omega)) (Nat.le_trans (Nat.pow_le_pow_right (by decide) (show i ≤ 5 by omega)) (by decide))
      have rnew : ∀ hd ∈ plansK w rs ((byStart rs).take i), r.1 ∉ hd.map (·.1) := fun hd hm z => by
        rw [hnames hd hm] at z
        have e2 : ((byStart rs).map (·.1)).take (i + 1) = ((byStart rs).take i).map (·.1) ++ [r.1] := by rw [← List.map_take, et, List.map_append]; rfl
        have nd2 : (((byStart rs).take i).map (·.1) ++ [r.1]).Nodup := by rw [← e2]; exact List.Nodup.sublist (List.take_sublist _ _) nd
        exact (List.nodup_append.mp nd2).2.2 _ z _ (List.mem_singleton.mpr rfl) rfl
      generalize hpl : plansK w rs ((byStart rs).take i) = pls at da hnames hplen rnew
      simp [bRet, bRetN, bChain, bBin, bVar, bC, bNil, bCons, bTup, bLst, bDnew, bB, blQ, bUn, bAnd, bOr, bNot, bTru, truD, bAndV, bOrV, bNotV, bIf, iiD, addD, subD, fdivD, modD, powD, mulD, negD, ltD, leD, gtD, geD, eqG, eqD, neD, isN, isND, notND, inG, inD, notInD, inSeq, ixD, bNo, bPart, bSl, slD, bRev, bCall, bMeth, bMake, bFld, bProp, bBlt, lenD, absD, maxD, minD, divmodD, listD, tupleD, allD, anyD, isTyD, tyNm, tyIs, isOwnD, gN, gsNil, gsCons, gT, gS, setD, bNext, bSeq, bBreak, bCont, bNever, bExpr, bIfS, bAsg, bPar, bPar3, bSetF, bAug, iT, iL, iR1, iR2, iS, iEn, bFor, bYes, bLc, bMt, tyD, appendD, extendD, popD, joinD, bLstRg, rg1, rg2, bLstZip, bCallK, dictD, sortedD, keyOf, startT, toPy, toPys, pyOf]
      intro lt hlt
      have nlt : ll ≠ lt := fun z => by rw [z, hlt] at ell; cases ell
      have nbt : lb ≠ lt := fun z => by rw [z, hlt] at elb; cases elb
      simp [put_ne nlt, ell]
      -- ahead of the j-th plan
      refine loop_inv _ (fun j ds' h2 => ∃ (qs : List Addr) (o5 o6 o7 : Option D), ds' = [some (.int w), some (.tup (rs.map tR)), some (.ref ll), some (tR r), some (.ref lt), o5, o6, o7] ∧ h2 lt = some (.lst (qs.map D.ref)) ∧ qs.length ≤ j * 6 ∧ DA h2 qs (stepP w rs r (pls.take j)) ∧ Sub h' h2) ?_ (fun j ds' h2 _ z => ?_) (fun j x ds' h2 Kn2 ej z kn2 => ?_) (fun ds' h2 z => ?_)
      · exact ⟨[], o5, o6, o7, rfl, put_same, Nat.zero_le _, .nil, Sub.put hlt⟩
      · obtain ⟨qs, o5, o6, o7, _, _, _, _, s2⟩ := z
        exact s2 _ _ ell
      · obtain ⟨qs, o5, o6, o7, rfl, elt, ql, dq, s2⟩ := z
        rw [List.getElem?_map] at ej
        cases ep : ps[j]? with
        | none => rw [ep] at ej; cases ej
        | some a =>
          rw [ep] at ej; cases ej
          obtain ⟨hd, ehd, eda⟩ := da.get ep
          have hmem : hd ∈ pls := List.mem_of_getElem? ehd
          have hj : j < pls.length := (List.getElem?_eq_some_iff.mp ehd).1
          have ea := s2 _ _ eda
          simp [bRet, bRetN, bChain, bBin, bVar, bC, bNil, bCons, bTup, bLst, bDnew, bB, blQ, bUn, bAnd, bOr, bNot, bTru, truD, bAndV, bOrV, bNotV, bIf, iiD, addD, subD, fdivD, modD, powD, mulD, negD, ltD, leD, gtD, geD, eqG, eqD, neD, isN, isND, notND, inG, inD, notInD, inSeq, ixD, bNo, bPart, bSl, slD, bRev, bCall, bMeth, bMake, bFld, bProp, bBlt, lenD, absD, maxD, minD, divmodD, listD, tupleD, allD, anyD, isTyD, tyNm, tyIs, isOwnD, gN, gsNil, gsCons, gT, gS, setD, bNext, bSeq, bBreak, bCont, bNever, bExpr, bIfS, bAsg, bPar, bPar3, bSetF, bAug, iT, iL, iR1, iR2, iS, iEn, bFor, bYes, bLc, bMt, tyD, appendD, extendD, popD, joinD, bLstRg, rg1, rg2, bLstZip, bCallK, dictD, sortedD, keyOf, startT, toPy, toPys, pyOf]
          refine choices_ok (by omega) w0 (by omega) ea fun lc hlc => ?_
          have clen := choices_len w rs hd r
          have nlc : lt ≠ lc := fun z => by rw [z, hlc] at elt; cases elt
          simp
          -- ahead of the k-th seat
          refine loop_inv _ (fun k ds' h3 => ∃ (us : List Addr) (o6 o7 : Option D), ds' = [some (.int w), some (.tup (rs.map tR)), some (.ref ll), some (tR r), some (.ref lt), some (.ref a), o6, o7] ∧ h3 lt = some (.lst (us.map D.ref)) ∧ us.length ≤ j * 6 + k ∧ DA h3 us (stepP w rs r (pls.take j) ++ ((choicesR w rs hd r).take k).map fun s => hd ++ [(r.1, s)]) ∧ Sub h' h3 ∧ h3 lc = some (.lst ((choicesR w rs hd r).map D.int))) ?_ (fun k ds' h3 _ z => ?_) (fun k x ds' h3 Kn3 ek z kn3 => ?_) (fun ds' h3 z => ?_)
          · exact ⟨qs, o6, o7, rfl, put_off elt hlc, ql, by simpa using dq.sub (Sub.put hlc), s2.trans (Sub.put hlc), put_same⟩
          · obtain ⟨_, _, _, _, _, _, _, _, z⟩ := z; exact z
          · obtain ⟨us, o6, o7, rfl, elt3, ul, du, s3, elc⟩ := z
            rw [List.getElem?_map] at ek
            cases es : (choicesR w rs hd r)[k]? with
            | none => rw [es] at ek; cases ek
            | some sp =>
              rw [es] at ek; cases ek
              have hk : k < (choicesR w rs hd r).length := (List.getElem?_eq_some_iff.mp es).1
              have ea3 := s3 _ _ eda
              simp [bRet, bRetN, bChain, bBin, bVar, bC, bNil, bCons, bTup, bLst, bDnew, bB, blQ, bUn, bAnd, bOr, bNot, bTru, truD, bAndV, bOrV, bNotV, bIf, iiD, addD, subD, fdivD, modD, powD, mulD, negD, ltD, leD, gtD, geD, eqG, eqD, neD, isN, isND, notND, inG, inD, notInD, inSeq, ixD, bNo, bPart, bSl, slD, bRev, bCall, bMeth, bMake, bFld, bProp, bBlt, lenD, absD, maxD, minD, divmodD, listD, tupleD, allD, anyD, isTyD, tyNm, tyIs, isOwnD, gN, gsNil, gsCons, gT, gS, setD, bNext, bSeq, bBreak, bCont, bNever, bExpr, bIfS, bAsg, bPar, bPar3, bSetF, bAug, iT, iL, iR1, iR2, iS, iEn, bFor, bYes, bLc, bMt, tyD, appendD, extendD, popD, joinD, bLstRg, rg1, rg2, bLstZip, bCallK, dictD, sortedD, keyOf, startT, toPy, toPys, pyOf, ea3]
              intro n hn
              have nln : lt ≠ n := fun z => by rw [z, hn] at elt3; cases elt3
              have hdl : (encH hd).length < 100000 := by
                have := congrArg List.length (hnames hd hmem)
                simp at this
                unfold encH; rw [List.length_map]; omega
              simp [hdl, setK_new (rnew hd hmem), put_put, put_ne nln, elt3]
              have hlt' : h' lt = none := hlt
              have h'n : h' n = none := Sub.none s3 hn
              have ncn : lc ≠ n := fun z => by rw [z, hn] at elc; cases elc
              have e4 : put h3 n (.dct (encH (hd ++ [(r.1, sp)]))) lt = some (.lst (us.map D.ref)) := put_off elt3 hn
              refine ⟨by omega, kn3 _ _ ⟨us ++ [n], _, _, rfl, by rw [put_same, List.map_append]; rfl, by simp; omega, ?_, (s3.trans (Sub.put hn)).put' hlt', by rw [put_ne nlc.symm]; exact put_off elc hn⟩⟩
              rw [List.take_add_one, es, List.map_append, ← List.append_assoc]
              refine DA.snoc ?_ ((du.sub (Sub.put hn)).off e4)
              rw [put_ne nln.symm, put_same]
          · obtain ⟨us, o6, o7, rfl, elt3, ul, du, s3, elc⟩ := z
            have e5 : (choicesR w rs hd r).take ((choicesR w rs hd r).map D.int).length = choicesR w rs hd r := List.take_of_length_le (by simp)
            rw [e5] at du
            refine kn2 _ _ ⟨us, _, _, _, rfl, elt3, by simp at ul; omega, ?_, s3⟩
            have e6 : pls.take (j + 1) = pls.take j ++ [hd] := by rw [List.take_add_one, ehd]; rfl
            rw [e6]
            unfold stepP at du ⊢
            rw [List.flatMap_append]
            simpa using du
      · obtain ⟨qs, o5, o6, o7, rfl, elt, ql, dq, s2⟩ := z
        have e5 : pls.take (ps.map D.ref).length = pls := List.take_of_length_le (by rw [List.length_map, da.length]; exact Nat.le_refl _)
        rw [e5] at dq
        simp [bRet, bRetN, bChain, bBin, bVar, bC, bNil, bCons, bTup, bLst, bDnew, bB, blQ, bUn, bAnd, bOr, bNot, bTru, truD, bAndV, bOrV, bNotV, bIf, iiD, addD, subD, fdivD, modD, powD, mulD, negD, ltD, leD, gtD, geD, eqG, eqD, neD, isN, isND, notND, inG, inD, notInD, inSeq, ixD, bNo, bPart, bSl, slD, bRev, bCall, bMeth, bMake, bFld, bProp, bBlt, lenD, absD, maxD, minD, divmodD, listD, tupleD, allD, anyD, isTyD, tyNm, tyIs, isOwnD, gN, gsNil, gsCons, gT, gS, setD, bNext, bSeq, bBreak, bCont, bNever, bExpr, bIfS, bAsg, bPar, bPar3, bSetF, bAug, iT, iL, iR1, iR2, iS, iEn, bFor, bYes, bLc, bMt, tyD, appendD, extendD, popD, joinD, bLstRg, rg1, rg2, bLstZip, bCallK, dictD, sortedD, keyOf, startT, toPy, toPys, pyOf]
        refine kn _ _ ⟨lt, qs, _, _, _, _, _, rfl, elt, ?_, s.trans s2, s2 _ _ elb⟩
        rw [et, plansK_snoc, hpl]; exact dq
  · obtain ⟨ll, ps, o3, o4, o5, o6, o7, rfl, ell, da, s, elb⟩ := j
    have e5 : (byStart rs).take ((byStart rs).map tR).length = byStart rs := List.take_of_length_le (by simp)
    rw [e5] at da
    have hplen : (plansK w rs (byStart rs)).length ≤ 46656 := Nat.le_trans (plansK_len w rs w1 rs.length _ bl) (Nat.le_trans (Nat.pow_le_pow_right (by decide) hl) (by decide))
    have hnames := plansK_names w rs rs.length (byStart rs) bl
    simp [bRet, bRetN, bChain, bBin, bVar, bC, bNil, bCons, bTup, bLst, bDnew, bB, blQ, bUn, bAnd, bOr, bNot, bTru, truD, bAndV, bOrV, bNotV, bIf, iiD, addD, subD, fdivD, modD, powD, mulD, negD, ltD, leD, gtD, geD, eqG, eqD, neD, isN, isND, notND, inG, inD, notInD, inSeq, ixD, bNo, bPart, bSl, slD, bRev, bCall, bMeth, bMake, bFld, bProp, bBlt, lenD, absD, maxD, minD, divmodD, listD, tupleD, allD, anyD, isTyD, tyNm, tyIs, isOwnD, gN, gsNil, gsCons, gT, gS, setD, bNext, bSeq, bBreak, bCont, bNever, bExpr, bIfS, bAsg, bPar, bPar3, bSetF, bAug, iT, iL, iR1, iR2, iS, iEn, bFor, bYes, bLc, bMt, tyD, appendD, extendD, popD, joinD, bLstRg, rg1, rg2, bLstZip, bCallK, dictD, sortedD, keyOf, startT, toPy, toPys, pyOf, ell]
    intro q hq
    have nlq : ll ≠ q := fun z => by rw [z, hq] at ell; cases ell
    have sq := Sub.none s hq
    unfold allP at c
    generalize plansK w rs (byStart rs) = pls at da hplen hnames c
    have dlen := da.length
    -- each dict, flat
    refine lc_state _ (fun i acc h3 => acc = (pls.map fun hd => D.tup ((flatH hd).map tPI)).take i ∧ h3 = put h' q (.lst acc)) (by simp; omega) ⟨rfl, rfl⟩ (fun i acc h3 _ z => ?_) (fun i x acc h3 Kn ei z k1 k2 => ?_) (fun acc h3 z => ?_)
    · rw [z.2, put_ne nlq]; exact ell
    · obtain ⟨rfl, rfl⟩ := z
      rw [List.getElem?_map] at ei
      cases ep : ps[i]? with
      | none => rw [ep] at ei; cases ei
      | some a =>
        rw [ep] at ei; cases ei
        obtain ⟨hd, ehd, eda⟩ := da.get ep
        have hlen : hd.length < 64 := by
          have := congrArg List.length (hnames hd (List.mem_of_getElem? ehd))
          simp at this
          omega
        simp [lcItem, bRet, bRetN, bChain, bBin, bVar, bC, bNil, bCons, bTup, bLst, bDnew, bB, blQ, bUn, bAnd, bOr, bNot, bTru, truD, bAndV, bOrV, bNotV, bIf, iiD, addD, subD, fdivD, modD, powD, mulD, negD, ltD, leD, gtD, geD, eqG, eqD, neD, isN, isND, notND, inG, inD, notInD, inSeq, ixD, bNo, bPart, bSl, slD, bRev, bCall, bMeth, bMake, bFld, bProp, bBlt, lenD, absD, maxD, minD, divmodD, listD, tupleD, allD, anyD, isTyD, tyNm, tyIs, isOwnD, gN, gsNil, gsCons, gT, gS, setD, bNext, bSeq, bBreak, bCont, bNever, bExpr, bIfS, bAsg, bPar, bPar3, bSetF, bAug, iT, iL, iR1, iR2, iS, iEn, bFor, bYes, bLc, bMt, tyD, appendD, extendD, popD, joinD, bLstRg, rg1, rg2, bLstZip, bCallK, dictD, sortedD, keyOf, startT, toPy, toPys, pyOf, wipeT]
        refine flat_ok (put_off eda hq) hlen ?_
        refine k1 _ _ _ (Sub.refl _) put_same ⟨?_, by rw [put_put]⟩
        rw [List.take_add_one, List.getElem?_map, ehd]; simp
    · obtain ⟨rfl, rfl⟩ := z
      have e6 : (pls.map fun hd => D.tup ((flatH hd).map tPI)).take (ps.map D.ref).length = pls.map fun hd => D.tup ((flatH hd).map tPI) := List.take_of_length_le (by rw [List.length_map, List.length_map, dlen]; exact Nat.le_refl _)
      rw [e6]
      have c2 := c q sq
      rw [List.map_map] at c2
      exact less_sub (Sub.upd s) c2
end T
set_option Elab.async false
set_option linter.all false
set_option maxRecDepth 100000
set_option maxHeartbeats 1000000
namespace T
open PySem L2 PyProof.Rows
/-! ### a plan as a dict -/
def c_law_held : Con := fun ds h P => ∃ pl : Held, ds = [.tup (pl.map tPI)] ∧ (pl.map (·.1)).Nodup ∧ pl.length ≤ 24 ∧ ∀ q, h q = none → P (.ref q) (put h q (.dct (encH pl)))
theorem held_ok {pl : Held} {h : TH} {P : TQ} (n : (pl.map (·.1)).Nodup) (l : pl.length ≤ 24) (q : ∀ q, h q = none → P (.ref q) (put h q (.dct (encH pl)))) : c_law_held [.tup (pl.map tPI)] h P := ⟨pl, rfl, n, l, q⟩
def rd_law_held : TrS := bSeq (bAsg (bDnew) (gN 1)) (bSeq (bFor (iT (bVar 0)) (gT 2 (gsCons (gN 2) (gsCons (gN 3) (gsNil)))) (bAsg (bVar 3) (gS (bVar 1) (bVar 2)))) (bRet (bVar 1)))
theorem con_law_held (ds : List D) (h : TH) (Q : TQ) (c : c_law_held ds h Q) : rd_law_held { nx := fun _ h' => less Q .non h', rt := less Q } (startT 4 ds) h := by
  obtain ⟨pl, rfl, n, l, c⟩ := c
  simp [rd_law_held, bRet, bRetN, bChain, bBin, bVar, bC, bNil, bCons, bTup, bLst, bDnew, bB, blQ, bUn, bAnd, bOr, bNot, bTru, truD, bAndV, bOrV, bNotV, bIf, iiD, addD, subD, fdivD, modD, powD, mulD, negD, ltD, leD, gtD, geD, eqG, eqD, neD, isN, isND, notND, inG, inD, notInD, inSeq, ixD, bNo, bPart, bSl, slD, bRev, bCall, bMeth, bMake, bFld, bProp, bBlt, lenD, absD, maxD, minD, divmodD, listD, tupleD, allD, anyD, isTyD, tyNm, tyIs, isOwnD, gN, gsNil, gsCons, gT, gS, setD, bNext, bSeq, bBreak, bCont, bNever, bExpr, bIfS, bAsg, bPar, bPar3, bSetF, bAug, iT, iL, iR1, iR2, iS, iEn, bFor, bYes, bLc, bMt, tyD, appendD, extendD, popD, joinD, bLstRg, rg1, rg2, bLstZip, bCallK, dictD, sortedD, keyOf, startT, toPy, toPys, pyOf]
  intro q hq
  refine loop_inv _ (fun i ds' h' => ∃ o2 o3 : Option D, ds' = [some (.tup (pl.map tPI)), some (.ref q), o2, o3] ∧ h' = put h q (.dct (encH (pl.take i)))) ⟨none, none, rfl, rfl⟩ (fun _ _ _ _ _ => trivial) (fun i x ds' h' Kn ei j kn => ?_) (fun ds' h' j => ?_)
  · obtain ⟨o2, o3, rfl, rfl⟩ := j
    rw [List.getElem?_map] at ei
    cases ep : pl[i]? with
    | none => rw [ep] at ei; cases ei
    | some p =>
      rw [ep] at ei; cases ei
      have hi : i < pl.length := (List.getElem?_eq_some_iff.mp ep).1
      have et : pl.take (i + 1) = pl.take i ++ [p] := by rw [List.take_add_one, ep]; rfl
      have new : p.1 ∉ (pl.take i).map (·.1) := fun z => by
        have e2 : (pl.map (·.1)).take (i + 1) = (pl.take i).map (·.1) ++ [p.1] := by rw [← List.map_take, et, List.map_append]; rfl
        have nd2 : ((pl.take i).map (·.1) ++ [p.1]).Nodup := by rw [← e2]; exact List.Nodup.sublist (List.take_sublist _ _) n
        exact (List.nodup_append.mp nd2).2.2 _ z _ (List.mem_singleton.mpr rfl) rfl
      have hl : (encH (pl.take i)).length < 100000 := by unfold encH; rw [List.length_map, List.length_take]; omega
      simp only [bRet, bRetN, bChain, bBin, bVar, bC, bNil, bCons, bTup, bLst, bDnew, bB, blQ, bUn, bAnd, bOr, bNot, bTru, truD, bAndV, bOrV, bNotV, bIf, iiD, addD, subD, fdivD, modD, powD, mulD, negD, ltD, leD, gtD, geD, eqG, eqD, neD, isN, isND, notND, inG, inD, notInD, inSeq, ixD, bNo, bPart, bSl, slD, bRev, bCall, bMeth, bMake, bFld, bProp, bBlt, lenD, absD, maxD, minD, divmodD, listD, tupleD, allD, anyD, isTyD, tyNm, tyIs, isOwnD, gN, gsNil, gsCons, gT, gS, setD, bNext, bSeq, bBreak, bCont, bNever, bExpr, bIfS, bAsg, bPar, bPar3, bSetF, bAug, iT, iL, iR1, iR2, iS, iEn, bFor, bYes, bLc, bMt, tyD, appendD, extendD, popD, joinD, bLstRg, rg1, rg2, bLstZip, bCallK, dictD, sortedD, keyOf, startT, toPy, toPys, pyOf, List.set_cons_zero, List.set_cons_succ, List.getElem?_cons_zero, List.getElem?_cons_succ, put_same, setK_new new, put_put, List.length_cons, List.length_nil]
      exact ⟨trivial, trivial, hl, kn _ _ ⟨_, _, rfl, by rw [et]⟩⟩
  · obtain ⟨o2, o3, rfl, rfl⟩ := j
    have e : pl.take (pl.map tPI).length = pl := List.take_of_length_le (by simp)
    rw [e]
    simp
    exact less_of (c q hq)
/-! ### the next ones, seat by seat -/
def rowP (rs : List Ride) (pl : Held) (s : Int) : List Str := ((byStart rs).filter fun r => decide (getH pl r.1 = some s)).map (·.1)
def pairsP (rs : List Ride) (pl : Held) (s : Int) : List (Str × Str) := (rowP rs pl s).zip ((rowP rs pl s).drop 1)
def nextP (w : Int) (rs : List Ride) (pl : Held) : List (Str × Str) := (List.range w.toNat).flatMap fun i : Nat => pairsP rs pl (1 + (i : Int))
theorem rowP_len (rs : List Ride) (pl : Held) (s : Int) : (rowP rs pl s).length ≤ rs.length := by
  unfold rowP
  rw [List.length_map]
  exact Nat.le_trans (List.length_filter_le _ _) (Nat.le_of_eq (byStart_perm rs).length_eq)
theorem pairsP_len (rs : List Ride) (pl : Held) (s : Int) : (pairsP rs pl s).length ≤ rs.length := by
  unfold pairsP
  rw [List.length_zip]
  have := rowP_len rs pl s
  omega
theorem flP_len (rs : List Ride) (pl : Held) (hl : rs.length ≤ 24) : ∀ i : Nat, ((List.range i).flatMap fun k : Nat => pairsP rs pl (1 + (k : Int))).length ≤ i * 24
  | 0 => by simp
  | i + 1 => by
    have ih := flP_len rs pl hl i
    rw [List.range_succ, List.flatMap_append, List.length_append, List.flatMap_cons, List.flatMap_nil, List.append_nil]
    have := pairsP_len rs pl (1 + (i : Int))
    omega
def c_law_next_pairs : Con := fun ds h P => ∃ (w : Int) (rs : List Ride) (pl : Held), ds = [.int w, .tup (rs.map tR), .tup (pl.map tPI)] ∧ rs.length ≤ 24 ∧ 0 ≤ w ∧ w ≤ 30 ∧ (pl.map (·.1)).Nodup ∧ pl.length ≤ 24 ∧ (∀ r ∈ rs, r.1 ∈ pl.map (·.1)) ∧ ∀ q, h q = none → P (.ref q) (put h q (.lst ((nextP w rs pl).map tP)))
theorem next_ok {w : Int} {rs : List Ride} {pl : Held} {h : TH} {P : TQ} (l : rs.length ≤ 24) (w0 : 0 ≤ w) (w1 : w ≤ 30) (n : (pl.map (·.1)).Nodup) (l2 : pl.length ≤ 24) (al : ∀ r ∈ rs, r.1 ∈ pl.map (·.1)) (q : ∀ q, h q = none → P (.ref q) (put h q (.lst ((nextP w rs pl).map tP)))) : c_law_next_pairs [.int w, .tup (rs.map tR), .tup (pl.map tPI)] h P := ⟨w, rs, pl, rfl, l, w0, w1, n, l2, al, q⟩
theorem cut1 {α : Type} (xs : List α) : cutT xs (some 1) none = xs.drop 1 := by
  unfold cutT
  have e : HT.sIx xs.length 0 (some ((1 : Nat) : Int)) = min 1 xs.length := HT.sIx_nat _ _ _
  have e2 : HT.sIx xs.length 0 (some 1) = min 1 xs.length := e
  rw [HT.sIx_none, e2]
  cases xs with
  | nil => rfl
  | cons x r =>
    have : min 1 (x :: r).length = 1 := by simp
    rw [this, List.drop_succ_cons, List.drop_zero]
    exact List.take_of_length_le (by simp)
def rd_law_next_pairs : TrS := bSeq (bAsg (bTup (bCons (bCall c_law_held [] (bCons (bVar 2) (bNil))) (bCons (bLst (bNil)) (bNil)))) (gT 2 (gsCons (gN 4) (gsCons (gN 5) (gsNil))))) (bSeq (bFor (iR2 (bCons (bC (.int 1)) (bCons (bBin addD (bVar 0) (bC (.int 1))) (bNil)))) (gN 3) (bSeq (bAsg (bLc (iL (bCall c_law_by_start [] (bCons (bVar 1) (bNil)))) (gN 7) (bB (bBin eqD (bBin ixD (bVar 4) (bBin ixD (bVar 7) (bC (.int 0)))) (bVar 3))) (bBin ixD (bVar 7) (bC (.int 0))) [7]) (gN 6)) (bExpr (bMt "list" extendD (bVar 5) (bCons (bLstZip (bVar 6) (bSl (bVar 6) (bPart (bC (.int 1))) (bNo))) (bNil)))))) (bRet (bVar 5)))
theorem con_law_next_pairs (ds : List D) (h : TH) (Q : TQ) (c : c_law_next_pairs ds h Q) : rd_law_next_pairs { nx := fun _ h' => less Q .non h', rt := less Q } (startT 8 ds) h := by
  obtain ⟨w, rs, pl, rfl, hl, w0, w1, n, l2, al, c⟩ := c
  simp [rd_law_next_pairs, bRet, bRetN, bChain, bBin, bVar, bC, bNil, bCons, bTup, bLst, bDnew, bB, blQ, bUn, bAnd, bOr, bNot, bTru, truD, bAndV, bOrV, bNotV, bIf, iiD, addD, subD, fdivD, modD, powD, mulD, negD, ltD, leD, gtD, geD, eqG, eqD, neD, isN, isND, notND, inG, inD, notInD, inSeq, ixD, bNo, bPart, bSl, slD, bRev, bCall, bMeth, bMake, bFld, bProp, bBlt, lenD, absD, maxD, minD, divmodD, listD, tupleD, allD, anyD, isTyD, tyNm, tyIs, isOwnD, gN, gsNil, gsCons, gT, gS, setD, bNext, bSeq, bBreak, bCont, bNever, bExpr, bIfS, bAsg, bPar, bPar3, bSetF, bAug, iT, iL, iR1, iR2, iS, iEn, bFor, bYes, bLc, bMt, tyD, appendD, extendD, popD, joinD, bLstRg, rg1, rg2, bLstZip, bCallK, dictD, sortedD, keyOf, startT, toPy, toPys, pyOf]
  refine held_ok n l2 fun d hd => ?_
  try simp
  intro f hf
  obtain ⟨hf0, nfd⟩ := put_none hf
  refine ⟨⟨by omega, by omega⟩, ?_⟩
  refine loop_inv _ (fun i ds' h' => ∃ o3 o6 o7 : Option D, ds' = [some (.int w), some (.tup (rs.map tR)), some (.tup (pl.map tPI)), o3, some (.ref d), some (.ref f), o6, o7] ∧ h' d = some (.dct (encH pl)) ∧ Sub (put h f (.lst (((List.range i).flatMap fun k : Nat => pairsP rs pl (1 + (k : Int))).map tP))) h') ?_ (fun _ _ _ _ _ => trivial) (fun i x ds' h' Kn ei j kn => ?_) (fun ds' h' j => ?_)
  · exact ⟨none, none, none, rfl, put_off put_same hf, Sub.upd (Sub.put hd)⟩
  · obtain ⟨o3, o6, o7, rfl, ed, s⟩ := j
    have hi : i < w.toNat := by
      have := (List.getElem?_eq_some_iff.mp ei).1
      simpa [upTo] using this
    have ex : x = .int (1 + (i : Int)) := by
      have e1 : (upTo 1 w.toNat)[i]? = some (.int (1 + (i : Int))) := by unfold upTo; rw [List.getElem?_map, List.getElem?_range hi]; rfl
      rw [e1] at ei; injection ei with ei; exact ei.symm
    subst ex
    have ef := s _ _ put_same
    simp [bRet, bRetN, bChain, bBin, bVar, bC, bNil, bCons, bTup, bLst, bDnew, bB, blQ, bUn, bAnd, bOr, bNot, bTru, truD, bAndV, bOrV, bNotV, bIf, iiD, addD, subD, fdivD, modD, powD, mulD, negD, ltD, leD, gtD, geD, eqG, eqD, neD, isN, isND, notND, inG, inD, notInD, inSeq, ixD, bNo, bPart, bSl, slD, bRev, bCall, bMeth, bMake, bFld, bProp, bBlt, lenD, absD, maxD, minD, divmodD, listD, tupleD, allD, anyD, isTyD, tyNm, tyIs, isOwnD, gN, gsNil, gsCons, gT, gS, setD, bNext, bSeq, bBreak, bCont, bNever, bExpr, bIfS, bAsg, bPar, bPar3, bSetF, bAug, iT, iL, iR1, iR2, iS, iEn, bFor, bYes, bLc, bMt, tyD, appendD, extendD, popD, joinD, bLstRg, rg1, rg2, bLstZip, bCallK, dictD, sortedD, keyOf, startT, toPy, toPys, pyOf]
    refine law_by_start_ok (by omega) fun lb hlb => ?_
    simp
    intro p2 hp2
    have hp2' := put_none hp2
    have d1 : d ≠ lb := fun z => by rw [z, hlb] at ed; cases ed
    have d2 : d ≠ p2 := fun z => by rw [z, hp2'.1] at ed; cases ed
    have f1 : f ≠ lb := fun z => by rw [z, hlb] at ef; cases ef
    have f2 : f ≠ p2 := fun z => by rw [z, hp2'.1] at ef; cases ef
    refine lc_filter (put h' lb _) tR (fun r => decide (getH pl r.1 = some (1 + (i : Int)))) (fun r => .str r.1) (byStart rs) hp2 (by rw [(byStart_perm rs).length_eq]; omega) (fun _ => ?_) (fun r hr acc Kn2 kn2 => ?_) ?_
    · exact put_off put_same hp2
    · have kn2 := kn2 _ (Sub.refl _)
      obtain ⟨v, ev⟩ := getH_mem (al r ((byStart_perm rs).mem_iff.mp hr))
      simp [lcItem, bRet, bRetN, bChain, bBin, bVar, bC, bNil, bCons, bTup, bLst, bDnew, bB, blQ, bUn, bAnd, bOr, bNot, bTru, truD, bAndV, bOrV, bNotV, bIf, iiD, addD, subD, fdivD, modD, powD, mulD, negD, ltD, leD, gtD, geD, eqG, eqD, neD, isN, isND, notND, inG, inD, notInD, inSeq, ixD, bNo, bPart, bSl, slD, bRev, bCall, bMeth, bMake, bFld, bProp, bBlt, lenD, absD, maxD, minD, divmodD, listD, tupleD, allD, anyD, isTyD, tyNm, tyIs, isOwnD, gN, gsNil, gsCons, gT, gS, setD, bNext, bSeq, bBreak, bCont, bNever, bExpr, bIfS, bAsg, bPar, bPar3, bSetF, bAug, iT, iL, iR1, iR2, iS, iEn, bFor, bYes, bLc, bMt, tyD, appendD, extendD, popD, joinD, bLstRg, rg1, rg2, bLstZip, bCallK, dictD, sortedD, keyOf, startT, toPy, toPys, pyOf, wipeT, put_ne d1, put_ne d2, ed, getK_encH, ev]
      by_cases z : v = 1 + (i : Int)
      · simpa [ev, z] using kn2
      · simpa [ev, z] using kn2
    · have er : (((byStart rs).filter fun r => decide (getH pl r.1 = some (1 + (i : Int)))).map fun r => D.str r.1) = (rowP rs pl (1 + (i : Int))).map D.str := by unfold rowP; rw [List.map_map]; rfl
      rw [er]
      have rl := rowP_len rs pl (1 + (i : Int))
      simp [cut1, put_ne f1, put_ne f2, ef]
      intro p3 hp3
      have hp3' := put_none hp3
      have hp3'' := put_none hp3'.1
      have n23 : p2 ≠ p3 := fun z => hp3'.2 z.symm
      simp [put_ne n23]
      refine ⟨by omega, fun p4 hp4 => ?_⟩
      have hp4' := put_none hp4
      have hp4'' := put_none hp4'.1
      have hp4''' := put_none hp4''.1
      have f3 : f ≠ p3 := fun z => by rw [z, hp3''.1] at ef; cases ef
      have f4 : f ≠ p4 := fun z => by rw [z, hp4'''.1] at ef; cases ef
      have ez : (((rowP rs pl (1 + (i : Int))).map D.str).zip ((rowP rs pl (1 + (i : Int))).map D.str).tail).map (fun p : D × D => D.tup [p.1, p.2]) = (pairsP rs pl (1 + (i : Int))).map tP := by
        unfold pairsP
        rw [List.drop_one, ← List.map_tail, List.zip_map, List.map_map]; rfl
      rw [ez]
      have pl' := pairsP_len rs pl (1 + (i : Int))
      simp only [put_ne f1, put_ne f2, put_ne f3, put_ne f4, ef]
      have fl := flP_len rs pl hl i
      refine ⟨by rw [List.length_map, List.length_map]; omega, ?_⟩
      have s5 : Sub h' (put (put (put (put h' lb (.lst ((byStart rs).map tR))) p2 (.lst ((rowP rs pl (1 + (i : Int))).map D.str))) p3 (.lst ((rowP rs pl (1 + (i : Int))).map D.str).tail)) p4 (.lst ((pairsP rs pl (1 + (i : Int))).map tP))) := (((Sub.put hlb).trans (Sub.put hp2)).trans (Sub.put hp3)).trans (Sub.put hp4)
      have e6 : ((List.range i).flatMap fun k : Nat => pairsP rs pl (1 + (k : Int))).map tP ++ (pairsP rs pl (1 + (i : Int))).map tP = ((List.range (i + 1)).flatMap fun k : Nat => pairsP rs pl (1 + (k : Int))).map tP := by
        rw [List.range_succ, List.flatMap_append, List.map_append]; simp
      refine kn _ _ ⟨_, _, _, rfl, ?_, ?_⟩
      · have ndf : d ≠ f := fun z => nfd z.symm
        rw [put_ne ndf]; exact s5 _ _ ed
      · rw [e6]
        have := Sub.upd (a := f) (o := .lst (((List.range (i + 1)).flatMap fun k : Nat => pairsP rs pl (1 + (k : Int))).map tP)) (s.trans s5)
        rwa [put_put] at this
  · obtain ⟨o3, o6, o7, rfl, ed, s⟩ := j
    simp
    have e : (upTo 1 w.toNat).length = w.toNat := by simp [upTo]
    rw [e] at s
    exact less_sub s (c f hf0)
end T
set_option Elab.async false
set_option linter.all false
set_option maxRecDepth 100000
set_option maxHeartbeats 1000000
namespace T
open PySem L2 PyProof.Rows
/-! ### pairs as data -/
abbrev pyP (p : Str × Str) : PyData := .tuple [.str p.1, .str p.2]
theorem toPy_tP (p : Str × Str) : toPy (tP p) = some (pyP p) := rfl
theorem toPys_pairs : ∀ ps : List (Str × Str), toPys (ps.map tP) = some (ps.map pyP)
  | [] => rfl
  | p :: r => by
    show (match toPy (tP p), toPys (r.map tP) with | some x, some xs => some (x :: xs) | _, _ => none) = _
    rw [toPys_pairs r]; rfl
def GoodPair (p : Str × Str) : Prop := GoodName p.1 ∧ GoodName p.2
theorem shaped_tP {p : Str × Str} (g : GoodPair p) : SeqAt.shaped (pyP p) = true := by simp [SeqAt.shaped, PyData.canLay0, PyData.canLayAll0, PyData.depth, PyData.depthAll, strOk_good g.1, strOk_good g.2]
theorem canLay_pairs : ∀ {ps : List (Str × Str)}, (∀ p ∈ ps, GoodPair p) → PyData.canLayAll0 (ps.map pyP) = true
  | [], _ => rfl
  | p :: r, g => by
    have ih := canLay_pairs fun q hq => g q (List.mem_cons_of_mem _ hq)
    have gp := g p List.mem_cons_self
    simp [PyData.canLayAll0, PyData.canLay0, strOk_good gp.1, strOk_good gp.2]
    exact ih
theorem depth_pairs : ∀ ps : List (Str × Str), PyData.depthAll (ps.map pyP) ≤ 1
  | [] => by simp [PyData.depthAll]
  | p :: r => by
    have ih := depth_pairs r
    simp [PyData.depthAll, PyData.depth] at ih ⊢
    omega
theorem shaped_list {ps : List (Str × Str)} (g : ∀ p ∈ ps, GoodPair p) : SeqAt.shaped (.list (ps.map pyP)) = true := by
  have := depth_pairs ps
  simp [SeqAt.shaped, PyData.canLay0, PyData.depth, canLay_pairs g]
  omega
theorem eqv_tP (p q : Str × Str) : PyData.eqv (pyP p) (pyP q) = decide (p = q) := by
  obtain ⟨a, b⟩ := p; obtain ⟨c, d⟩ := q
  by_cases h1 : a = c <;> by_cases h2 : b = d <;> simp [PyData.eqv, PyData.eqvAll, h1, h2]
theorem ne_nil_pairs {f q : Addr} {ps : List (Str × Str)} {h : TH} {P : TQ} (e1 : h f = some (.lst (ps.map tP))) (e2 : h q = some (.lst [])) (g : ∀ p ∈ ps, GoodPair p) (k : P (.bl (!decide (ps = []))) h) : neD (.ref f) (.ref q) h P := by
  show eqG (!·) (.ref f) (.ref q) h P
  have t0 : toPys [] = some [] := rfl
  simp only [eqG, pyOf, e1, e2, toPys_pairs, t0, Option.map_some]
  refine ⟨shaped_list g, rfl, ?_⟩
  have e : PyData.eqv (.list (ps.map pyP)) (.list []) = decide (ps = []) := by
    cases ps with
    | nil => simp [PyData.eqv, PyData.eqvAll]
    | cons p r => simp [PyData.eqv, PyData.eqvAll]
  rw [e]; exact k
theorem any_pairs (p : Str × Str) : ∀ ps : List (Str × Str), ((ps.map pyP).any fun z => PyData.eqv z (pyP p)) = decide (p ∈ ps)
  | [] => by simp
  | q :: r => by
    rw [List.map_cons, List.any_cons, any_pairs p r, eqv_tP]
    by_cases z : q = p
    · simp [z]
    · have z' : ¬ p = q := fun y => z y.symm
      simp [z, z']
theorem in_pairs {p : Str × Str} {f : Addr} {ps : List (Str × Str)} {h : TH} {P : TQ} (e1 : h f = some (.lst (ps.map tP))) (gp : GoodPair p) (g : ∀ p ∈ ps, GoodPair p) (k : P (.bl (decide (p ∈ ps))) h) : inD (tP p) (.ref f) h P := by
  show inG false (tP p) (.ref f) h P
  simp only [inG, e1, inSeq, pyOf, toPy_tP, toPys_pairs]
  refine ⟨shaped_tP gp, shaped_list g, ?_⟩
  rw [any_pairs]; exact k
/-! ### what stands in all plans -/
def PlanOf (rs : List Ride) (pl : Held) : Prop := (pl.map (·.1)).Nodup ∧ pl.length = rs.length ∧ ∀ r ∈ rs, r.1 ∈ pl.map (·.1)
theorem flatH_names (hd : Held) : ((flatH hd).map (·.1)) = sortS (hd.map (·.1)) := by
  unfold flatH
  rw [List.map_map]
  exact List.map_id _
theorem allP_plan {w : Int} {rs : List Ride} (g : GoodRides rs) : ∀ pl ∈ allP w rs, PlanOf rs pl := by
  intro pl h
  obtain ⟨hd, hm, rfl⟩ := List.mem_map.mp h
  have e := plansK_names w rs _ (byStart rs) rfl hd hm
  have nd : ((byStart rs).map (·.1)).Nodup := (((byStart_perm rs).map (·.1)).nodup_iff).mpr (List.pairwise_map.mpr (g.asc.imp fun {a b} z e => by rw [e, ltS_irrefl] at z; cases z))
  refine ⟨?_, ?_, fun r hr => ?_⟩
  · rw [flatH_names, e]
    exact ((sortS_perm _).nodup_iff).mpr nd
  · have := congrArg List.length (flatH_names hd)
    rw [List.length_map, (sortS_perm _).length_eq, e, List.length_map, (byStart_perm rs).length_eq] at this
    exact this
  · rw [flatH_names, e]
    exact (sortS_perm _).mem_iff.mpr (List.mem_map.mpr ⟨r, (byStart_perm rs).mem_iff.mpr hr, rfl⟩)
theorem nextP_good {w : Int} {rs : List Ride} (g : GoodRides rs) (pl : Held) : ∀ p ∈ nextP w rs pl, GoodPair p := by
  intro p h
  obtain ⟨i, _, h⟩ := List.mem_flatMap.mp h
  have row : ∀ s, ∀ n ∈ rowP rs pl s, GoodName n := fun s n hn => by
    obtain ⟨r, hr, rfl⟩ := List.mem_map.mp hn
    exact (g.each r ((byStart_perm rs).mem_iff.mp (List.mem_filter.mp hr).1)).nm
  have h := List.of_mem_zip (b := p.2) h
  exact ⟨row _ _ h.1, row _ _ (List.mem_of_mem_drop h.2)⟩
theorem nextP_len {w : Int} {rs : List Ride} (pl : Held) (hl : rs.length ≤ 24) (hw : w ≤ 30) : (nextP w rs pl).length ≤ 720 := by
  have := flP_len rs pl hl w.toNat
  unfold nextP
  omega
def keepF (w : Int) (rs : List Ride) (f : List (Str × Str)) (pl : Held) : List (Str × Str) := f.filter fun x => decide (x ∈ nextP w rs pl)
def everyF (w : Int) (rs : List Ride) : List (Str × Str) := match allP w rs with
  | [] => []
  | p :: rest => rest.foldl (keepF w rs) (nextP w rs p)
def everyP (w : Int) (rs : List Ride) : List (Str × Str) := sortP (everyF w rs)
theorem keep_sub {w : Int} {rs : List Ride} : ∀ (rest : List Held) (f : List (Str × Str)), List.Sublist (rest.foldl (keepF w rs) f) f
  | [], f => List.Sublist.refl _
  | p :: r, f => (keep_sub r (keepF w rs f p)).trans List.filter_sublist
def c_law_every : Con := fun ds h P => ∃ (w : Int) (rs : List Ride), ds = [.int w, .tup (rs.map tR)] ∧ GoodRides rs ∧ rs.length ≤ 6 ∧ 0 ≤ w ∧ w ≤ 6 ∧ allP w rs ≠ [] ∧ P (.tup ((everyP w rs).map tP)) h
theorem every_ok {w : Int} {rs : List Ride} {h : TH} {P : TQ} (g : GoodRides rs) (l : rs.length ≤ 6) (w0 : 0 ≤ w) (w1 : w ≤ 6) (ne : allP w rs ≠ []) (q : P (.tup ((everyP w rs).map tP)) h) : c_law_every [.int w, .tup (rs.map tR)] h P := ⟨w, rs, rfl, g, l, w0, w1, ne, q⟩
def rd_law_every : TrS := bSeq (bAsg (bCall c_law_all_plans [] (bCons (bVar 0) (bCons (bVar 1) (bNil)))) (gN 2)) (bSeq (bAsg (bCall c_law_next_pairs [] (bCons (bVar 0) (bCons (bVar 1) (bCons (bBin ixD (bVar 2) (bC (.int 0))) (bNil))))) (gN 3)) (bSeq (bFor (iL (bSl (bVar 2) (bPart (bC (.int 1))) (bNo))) (gN 4) (bSeq (bAsg (bIf (bB (bBin neD (bVar 3) (bLst (bNil)))) (bCall c_law_next_pairs [] (bCons (bVar 0) (bCons (bVar 1) (bCons (bVar 4) (bNil))))) (bLst (bNil))) (gN 5)) (bAsg (bLc (iL (bVar 3)) (gN 6) (bB (bBin inD (bVar 6) (bVar 5))) (bVar 6) [6]) (gN 3)))) (bRet (bBlt tupleD (bCons (bBlt sortedD (bCons (bVar 3) (bNil))) (bNil))))))
theorem con_law_every (ds : List D) (h : TH) (Q : TQ) (c : c_law_every ds h Q) : rd_law_every { nx := fun _ h' => less Q .non h', rt := less Q } (startT 7 ds) h := by
  obtain ⟨w, rs, rfl, g, hl, w0, w1, ne, c⟩ := c
  simp [rd_law_every, bRet, bRetN, bChain, bBin, bVar, bC, bNil, bCons, bTup, bLst, bDnew, bB, blQ, bUn, bAnd, bOr, bNot, bTru, truD, bAndV, bOrV, bNotV, bIf, iiD, addD, subD, fdivD, modD, powD, mulD, negD, ltD, leD, gtD, geD, eqG, eqD, neD, isN, isND, notND, inG, inD, notInD, inSeq, ixD, bNo, bPart, bSl, slD, bRev, bCall, bMeth, bMake, bFld, bProp, bBlt, lenD, absD, maxD, minD, divmodD, listD, tupleD, allD, anyD, isTyD, tyNm, tyIs, isOwnD, gN, gsNil, gsCons, gT, gS, setD, bNext, bSeq, bBreak, bCont, bNever, bExpr, bIfS, bAsg, bPar, bPar3, bSetF, bAug, iT, iL, iR1, iR2, iS, iEn, bFor, bYes, bLc, bMt, tyD, appendD, extendD, popD, joinD, bLstRg, rg1, rg2, bLstZip, bCallK, dictD, sortedD, keyOf, startT, toPy, toPys, pyOf]
  refine all_plans_ok g hl w0 w1 fun e he => ?_
  have hplan := allP_plan (w := w) g
  have ce : everyP w rs = sortP (everyF w rs) := rfl
  unfold everyF at ce
  generalize allP w rs = pls at ne hplan ce
  cases pls with
  | nil => exact absurd rfl ne
  | cons p0 rest =>
    dsimp only at ce
    have pp : ∀ pl ∈ p0 :: rest, (pl.map (·.1)).Nodup ∧ pl.length ≤ 24 ∧ ∀ r ∈ rs, r.1 ∈ pl.map (·.1) := fun pl h => ⟨(hplan pl h).1, by rw [(hplan pl h).2.1]; omega, (hplan pl h).2.2⟩
    simp
    obtain ⟨n0, l0, a0⟩ := pp p0 List.mem_cons_self
    refine next_ok (by omega) w0 (by omega) n0 l0 a0 fun f hf => ?_
    have nef : e ≠ f := fun z => by rw [← z, put_same] at hf; cases hf
    simp [put_ne nef, cut1]
    intro se hse
    have hse' := put_none hse
    have fse : f ≠ se := fun z => hse'.2 z.symm
    refine loop_inv _ (fun i ds' h' => ∃ (f : Addr) (o4 o5 o6 : Option D), ds' = [some (.int w), some (.tup (rs.map tR)), some (.ref e), some (.ref f), o4, o5, o6] ∧ h' f = some (.lst (((rest.take i).foldl (keepF w rs) (nextP w rs p0)).map tP)) ∧ Sub h h' ∧ h' se = some (.lst (rest.map fun pl => D.tup (pl.map tPI)))) ?_ (fun i ds' h' _ j => ?_) (fun i x ds' h' Kn ei j kn => ?_) (fun ds' h' j => ?_)
    · exact ⟨f, none, none, none, rfl, put_off put_same hse, ((Sub.put he).trans (Sub.put hf)).trans (Sub.put hse), put_same⟩
    · obtain ⟨_, _, _, _, _, _, _, z⟩ := j; exact z
    · obtain ⟨f, o4, o5, o6, rfl, ef, s, es⟩ := j
      rw [List.getElem?_map] at ei
      cases ep : rest[i]? with
      | none => rw [ep] at ei; cases ei
      | some pl =>
        rw [ep] at ei; cases ei
        obtain ⟨n1, l1, a1⟩ := pp pl (List.mem_cons_of_mem _ (List.mem_of_getElem? ep))
        have et : (rest.take (i + 1)).foldl (keepF w rs) (nextP w rs p0) = keepF w rs ((rest.take i).foldl (keepF w rs) (nextP w rs p0)) pl := by
          rw [List.take_add_one, ep, List.foldl_append]; rfl
        have fs := keep_sub (w := w) (rs := rs) (rest.take i) (nextP w rs p0)
        have fg : ∀ p ∈ (rest.take i).foldl (keepF w rs) (nextP w rs p0), GoodPair p := fun p hp => nextP_good g p0 p (fs.subset hp)
        have flen : ((rest.take i).foldl (keepF w rs) (nextP w rs p0)).length ≤ 720 := Nat.le_trans fs.length_le (nextP_len p0 (by omega) (by omega))
        generalize (rest.take i).foldl (keepF w rs) (nextP w rs p0) = F at ef et fg flen
        simp only [bSeq, bAsg, bIf, bB, bBin, bVar, bLst, bNil, gN]
        simp
        intro q hq
        have nfq : f ≠ q := fun z => by rw [z, hq] at ef; cases ef
        have sq : se ≠ q := fun z => by rw [z, hq] at es; cases es
        refine ne_nil_pairs (put_off ef hq) put_same fg ?_
        simp [blQ]
        -- the filter, the list at hr
        have go : ∀ (h2 : TH) (hr : Addr) (ys : List (Str × Str)), Sub h' h2 → h2 hr = some (.lst (ys.map tP)) → (∀ p ∈ ys, GoodPair p) → (F.filter fun x => decide (x ∈ ys)) = keepF w rs F pl →
            bLc (iL (bVar 3)) (gN 6) (bBin inD (bVar 6) (bVar 5) |> bB) (bVar 6) [6] [some (.int w), some (.tup (rs.map tR)), some (.ref e), some (.ref f), some (.tup (pl.map tPI)), some (.ref hr), o6] h2 (fun d h1 => Kn [some (.int w), some (.tup (rs.map tR)), some (.ref e), some d, some (.tup (pl.map tPI)), some (.ref hr), o6] h1) := by
          intro h2 hr ys s2 ehr gy ek
          have ef2 := s2 _ _ ef
          simp only [bLc, iL, bVar, wipeT]
          simp [ef2]
          intro p5 hp5
          have nf5 : f ≠ p5 := fun z => by rw [z, hp5] at ef2; cases ef2
          refine lc_filter h2 tP (fun x => decide (x ∈ ys)) tP F hp5 (by omega) (fun _ => put_off ef2 hp5) (fun x hx acc Kn2 kn2 => ?_) ?_
          · have kn2 := kn2 _ (Sub.refl _)
            simp only [lcItem, bB, bBin, bVar, gN]
            simp
            refine in_pairs (put_off ehr hp5) (fg x hx) gy ?_
            simp [blQ]
            by_cases z : x ∈ ys
            · simpa [z] using kn2
            · simpa [z] using kn2
          · rw [ek]
            exact kn _ _ ⟨p5, _, _, _, rfl, by rw [put_same, et], s.trans (s2.trans (Sub.put hp5)), put_off (s2 _ _ es) hp5⟩
        by_cases zF : F = []
        · rw [if_pos zF]
          intro p hp
          refine go _ p [] ((Sub.put hq).trans (Sub.put hp)) put_same (by simp) ?_
          rw [zF]; rfl
        · rw [if_neg zF]
          simp only [bCall, bCons, bNil, bVar]
          simp
          refine next_ok (by omega) w0 (by omega) n1 l1 a1 fun p hp => ?_
          exact go _ p (nextP w rs pl) ((Sub.put hq).trans (Sub.put hp)) put_same (nextP_good g pl) rfl
    · obtain ⟨f, o4, o5, o6, rfl, ef, s, es⟩ := j
      have e5 : rest.take (rest.map fun pl => D.tup (pl.map tPI)).length = rest := List.take_of_length_le (by simp)
      rw [e5] at ef
      have fs := keep_sub (w := w) (rs := rs) rest (nextP w rs p0)
      have flen : (rest.foldl (keepF w rs) (nextP w rs p0)).length ≤ 720 := Nat.le_trans fs.length_le (nextP_len p0 (by omega) (by omega))
      simp [bRet, bRetN, bChain, bBin, bVar, bC, bNil, bCons, bTup, bLst, bDnew, bB, blQ, bUn, bAnd, bOr, bNot, bTru, truD, bAndV, bOrV, bNotV, bIf, iiD, addD, subD, fdivD, modD, powD, mulD, negD, ltD, leD, gtD, geD, eqG, eqD, neD, isN, isND, notND, inG, inD, notInD, inSeq, ixD, bNo, bPart, bSl, slD, bRev, bCall, bMeth, bMake, bFld, bProp, bBlt, lenD, absD, maxD, minD, divmodD, listD, tupleD, allD, anyD, isTyD, tyNm, tyIs, isOwnD, gN, gsNil, gsCons, gT, gS, setD, bNext, bSeq, bBreak, bCont, bNever, bExpr, bIfS, bAsg, bPar, bPar3, bSetF, bAug, iT, iL, iR1, iR2, iS, iEn, bFor, bYes, bLc, bMt, tyD, appendD, extendD, popD, joinD, bLstRg, rg1, rg2, bLstZip, bCallK, dictD, sortedD, keyOf, startT, toPy, toPys, pyOf, ef]
      refine ⟨sortOk_pairs _ (by omega), fun q hq => ?_⟩
      rw [sortD_map]
      have e6 : (rest.foldl (keepF w rs) (nextP w rs p0)).mergeSort (PySem.W.dataLe false fun b => pyD (tP b)) = everyP w rs := ce.symm
      rw [e6]
      exact less_sub (s.trans (Sub.put hq)) c
/-! ### the line run backwards -/
def endsR (rs : List Ride) : List Int := rs.map (·.2.2)
def farR (rs : List Ride) : Int := ((endsR rs ++ [0]).max?).getD 0
theorem far_max (rs : List Ride) : (endsR rs ++ [0]).max? = some (farR rs) := by
  unfold farR
  cases e : (endsR rs ++ [0]).max? with
  | none => have := List.max?_eq_none_iff.mp e; simp at this
  | some m => rfl
theorem far_ge (rs : List Ride) : ∀ r ∈ rs, r.2.2 ≤ farR rs := fun r hr => (List.max?_eq_some_iff.mp (far_max rs)).2 _ (List.mem_append_left _ (List.mem_map.mpr ⟨r, hr, rfl⟩))
def backR (rs : List Ride) : List Ride := rs.map fun r => (r.1, farR rs - r.2.2, farR rs - r.2.1)
theorem back_good {rs : List Ride} (g : GoodRides rs) : GoodRides (backR rs) := by
  refine ⟨fun r hr => ?_, ?_, by unfold backR; rw [List.length_map]; exact g.len⟩
  · obtain ⟨r', hr', rfl⟩ := List.mem_map.mp hr
    have gr := g.each r' hr'
    have := far_ge rs r' hr'
    have := gr.lt
    exact ⟨gr.nm, by show 0 ≤ farR rs - r'.2.2; omega, by show farR rs - r'.2.2 < farR rs - r'.2.1; omega⟩
  · exact List.pairwise_map.mpr g.asc
def c_law_backwards : Con := fun ds h P => ∃ rs : List Ride, ds = [.tup (rs.map tR)] ∧ rs.length ≤ 24 ∧ P (.tup ((backR rs).map tR)) h
theorem backwards_ok {rs : List Ride} {h : TH} {P : TQ} (l : rs.length ≤ 24) (q : P (.tup ((backR rs).map tR)) h) : c_law_backwards [.tup (rs.map tR)] h P := ⟨rs, rfl, l, q⟩
def rd_law_backwards : TrS := bSeq (bAsg (bBlt maxD (bCons (bBin addD (bLc (iT (bVar 0)) (gN 2) (bYes) (bBin ixD (bVar 2) (bC (.int 2))) [2]) (bLst (bCons (bC (.int 0)) (bNil)))) (bNil))) (gN 1)) (bRet (bBlt tupleD (bCons (bLc (iT (bVar 0)) (gN 2) (bYes) (bTup (bCons (bBin ixD (bVar 2) (bC (.int 0))) (bCons (bBin subD (bVar 1) (bBin ixD (bVar 2) (bC (.int 2)))) (bCons (bBin subD (bVar 1) (bBin ixD (bVar 2) (bC (.int 1)))) (bNil))))) [2]) (bNil))))
theorem con_law_backwards (ds : List D) (h : TH) (Q : TQ) (c : c_law_backwards ds h Q) : rd_law_backwards { nx := fun _ h' => less Q .non h', rt := less Q } (startT 3 ds) h := by
  obtain ⟨rs, rfl, hl, c⟩ := c
  simp [rd_law_backwards, bRet, bRetN, bChain, bBin, bVar, bC, bNil, bCons, bTup, bLst, bDnew, bB, blQ, bUn, bAnd, bOr, bNot, bTru, truD, bAndV, bOrV, bNotV, bIf, iiD, addD, subD, fdivD, modD, powD, mulD, negD, ltD, leD, gtD, geD, eqG, eqD, neD, isN, isND, notND, inG, inD, notInD, inSeq, ixD, bNo, bPart, bSl, slD, bRev, bCall, bMeth, bMake, bFld, bProp, bBlt, lenD, absD, maxD, minD, divmodD, listD, tupleD, allD, anyD, isTyD, tyNm, tyIs, isOwnD, gN, gsNil, gsCons, gT, gS, setD, bNext, bSeq, bBreak, bCont, bNever, bExpr, bIfS, bAsg, bPar, bPar3, bSetF, bAug, iT, iL, iR1, iR2, iS, iEn, bFor, bYes, bLc, bMt, tyD, appendD, extendD, popD, joinD, bLstRg, rg1, rg2, bLstZip, bCallK, dictD, sortedD, keyOf, startT, toPy, toPys, pyOf]
  intro p hp
  refine lc_map h tR (fun r => .int r.2.2) rs hp (by omega) (fun _ => trivial) (fun r hr acc Kn kn => ?_) ?_
  · simp [lcItem, bRet, bRetN, bChain, bBin, bVar, bC, bNil, bCons, bTup, bLst, bDnew, bB, blQ, bUn, bAnd, bOr, bNot, bTru, truD, bAndV, bOrV, bNotV, bIf, iiD, addD, subD, fdivD, modD, powD, mulD, negD, ltD, leD, gtD, geD, eqG, eqD, neD, isN, isND, notND, inG, inD, notInD, inSeq, ixD, bNo, bPart, bSl, slD, bRev, bCall, bMeth, bMake, bFld, bProp, bBlt, lenD, absD, maxD, minD, divmodD, listD, tupleD, allD, anyD, isTyD, tyNm, tyIs, isOwnD, gN, gsNil, gsCons, gT, gS, setD, bNext, bSeq, bBreak, bCont, bNever, bExpr, bIfS, bAsg, bPar, bPar3, bSetF, bAug, iT, iL, iR1, iR2, iS, iEn, bFor, bYes, bLc, bMt, tyD, appendD, extendD, popD, joinD, bLstRg, rg1, rg2, bLstZip, bCallK, dictD, sortedD, keyOf, startT, toPy, toPys, pyOf, wipeT]
    exact kn
  · intro p2 hp2
    have n12 : p ≠ p2 := fun z => by rw [z, put_same] at hp2; cases hp2
    simp only [put_ne n12, put_same]
    refine ⟨by simp; omega, fun p3 hp3 => ?_⟩
    have e : ((rs.map fun r => D.int r.2.2) ++ [.int 0]) = (endsR rs ++ [0]).map D.int := by unfold endsR; simp
    rw [e]
    simp only [put_at, intsOf_map, far_max]
    intro p4 hp4
    refine lc_map (put (put (put h p _) p2 _) p3 _) tR (fun r => tR (r.1, farR rs - r.2.2, farR rs - r.2.1)) rs hp4 (by omega) (fun _ => trivial) (fun r hr acc Kn kn => ?_) ?_
    · simp [lcItem, bRet, bRetN, bChain, bBin, bVar, bC, bNil, bCons, bTup, bLst, bDnew, bB, blQ, bUn, bAnd, bOr, bNot, bTru, truD, bAndV, bOrV, bNotV, bIf, iiD, addD, subD, fdivD, modD, powD, mulD, negD, ltD, leD, gtD, geD, eqG, eqD, neD, isN, isND, notND, inG, inD, notInD, inSeq, ixD, bNo, bPart, bSl, slD, bRev, bCall, bMeth, bMake, bFld, bProp, bBlt, lenD, absD, maxD, minD, divmodD, listD, tupleD, allD, anyD, isTyD, tyNm, tyIs, isOwnD, gN, gsNil, gsCons, gT, gS, setD, bNext, bSeq, bBreak, bCont, bNever, bExpr, bIfS, bAsg, bPar, bPar3, bSetF, bAug, iT, iL, iR1, iR2, iS, iEn, bFor, bYes, bLc, bMt, tyD, appendD, extendD, popD, joinD, bLstRg, rg1, rg2, bLstZip, bCallK, dictD, sortedD, keyOf, startT, toPy, toPys, pyOf, wipeT]
      simpa using kn
    · have e2 : (rs.map fun r => tR (r.1, farR rs - r.2.2, farR rs - r.2.1)) = (backR rs).map tR := by unfold backR; rw [List.map_map]; rfl
      rw [e2]
      simp only [put_at]
      exact less_sub ((((Sub.put hp).trans (Sub.put hp2)).trans (Sub.put hp3)).trans (Sub.put hp4)) c
/-! ### small lines -/
def c_law_small : Con := fun ds h P => ∃ (p : Addr) (a b c : Int), ds = [.ref p] ∧ h p = some (pl a b c) ∧ InM a ∧ ∀ (w : Int) (rs : List Ride) (a b c : Int), 1 ≤ w → w ≤ 3 → GoodRides rs → rs.length ≤ 6 → InM a → P (.tup [.int w, .tup (rs.map tR)]) (put h p (pl a b c))
theorem small_ok {p : Addr} {a b c : Int} {h : TH} {P : TQ} (e : h p = some (pl a b c)) (ia : InM a) (q : ∀ (w : Int) (rs : List Ride) (a b c : Int), 1 ≤ w → w ≤ 3 → GoodRides rs → rs.length ≤ 6 → InM a → P (.tup [.int w, .tup (rs.map tR)]) (put h p (pl a b c))) : c_law_small [.ref p] h P := ⟨p, a, b, c, rfl, e, ia, q⟩
theorem words_ok {p : Addr} {a b c : Int} {h : TH} {P : TQ} (e : h p = some (pl a b c)) (ia : InM a) (q : ∀ (ws : List Str) (a b c : Int) (q : Addr), GoodWords ws → ws.length = 24 → InM a → h q = none → P (.ref q) (put (put h p (pl a b c)) q (.lst (ws.map D.str)))) : c_law_words [.ref p, .int 24] h P := ⟨p, a, b, c, rfl, e, ia, q⟩
theorem words_take {ws : List Str} (g : GoodWords ws) (n : Nat) : GoodWords (ws.take n) := ⟨fun w h => g.nm w (List.mem_of_mem_take h), List.Nodup.sublist (List.take_sublist _ _) g.nd⟩
theorem cutTo {α : Type} (xs : List α) (n : Nat) : cutT xs none (some (n : Int)) = xs.take n := by
  unfold cutT
  rw [HT.sIx_none, HT.sIx_nat, List.drop_zero, Nat.sub_zero]
  rcases Nat.le_total n xs.length with h | h
  · rw [Nat.min_eq_left h]
  · rw [Nat.min_eq_right h, List.take_of_length_le (Nat.le_refl _), List.take_of_length_le h]
def rd_law_small : TrS := bSeq (bAsg (bSl (bCall c_law_words [] (bCons (bVar 0) (bCons (bC (.int 24)) (bNil)))) (bNo) (bPart (bCall c_law_draw [] (bCons (bVar 0) (bCons (bC (.int 7)) (bNil)))))) (gN 1)) (bRet (bTup (bCons (bBin addD (bC (.int 1)) (bCall c_law_draw [] (bCons (bVar 0) (bCons (bC (.int 3)) (bNil))))) (bCons (bCall c_law_rides [] (bCons (bVar 0) (bCons (bVar 1) (bCons (bBin addD (bC (.int 1)) (bCall c_law_draw [] (bCons (bVar 0) (bCons (bC (.int 7)) (bNil))))) (bNil))))) (bNil)))))
theorem con_law_small (ds : List D) (h : TH) (Q : TQ) (c : c_law_small ds h Q) : rd_law_small { nx := fun _ h' => less Q .non h', rt := less Q } (startT 2 ds) h := by
  obtain ⟨p, a, b, c, rfl, e, ia, q⟩ := c
  simp [rd_law_small, bRet, bRetN, bChain, bBin, bVar, bC, bNil, bCons, bTup, bLst, bDnew, bB, blQ, bUn, bAnd, bOr, bNot, bTru, truD, bAndV, bOrV, bNotV, bIf, iiD, addD, subD, fdivD, modD, powD, mulD, negD, ltD, leD, gtD, geD, eqG, eqD, neD, isN, isND, notND, inG, inD, notInD, inSeq, ixD, bNo, bPart, bSl, slD, bRev, bCall, bMeth, bMake, bFld, bProp, bBlt, lenD, absD, maxD, minD, divmodD, listD, tupleD, allD, anyD, isTyD, tyNm, tyIs, isOwnD, gN, gsNil, gsCons, gT, gS, setD, bNext, bSeq, bBreak, bCont, bNever, bExpr, bIfS, bAsg, bPar, bPar3, bSetF, bAug, iT, iL, iR1, iR2, iS, iEn, bFor, bYes, bLc, bMt, tyD, appendD, extendD, popD, joinD, bLstRg, rg1, rg2, bLstZip, bCallK, dictD, sortedD, keyOf, startT, toPy, toPys, pyOf]
  refine words_ok e ia fun ws a b c wl g wl24 ia hwl => ?_
  have nwp : wl ≠ p := fun z => by rw [z, e] at hwl; cases hwl
  refine draw_ok (by rw [put_ne nwp.symm, put_same]) ia (by decide) (by decide) fun n a1 b1 c1 n0 n7 ia => ?_
  obtain ⟨nn, rfl⟩ : ∃ k : Nat, n = k := ⟨n.toNat, by omega⟩
  rw [put_comm nwp, put_put]
  have hq : h wl = none := hwl
  have s1 : Sub (put h p (pl a1 b1 c1)) (put (put h p (pl a1 b1 c1)) wl (.lst (ws.map D.str))) := Sub.put (by rw [put_ne nwp]; exact hq)
  simp only [put_same]
  intro w2 hw2
  rw [cutT_map, cutTo]
  have n2 := put_none hw2
  have n2p := put_none n2.1
  have hp2 : put (put (put h p (pl a1 b1 c1)) wl (.lst (ws.map D.str))) w2 (.lst ((ws.take nn).map D.str)) p = some (pl a1 b1 c1) := by rw [put_ne n2p.2.symm, put_ne nwp.symm, put_same]
  refine draw_ok hp2 ia (by decide) (by decide) fun w a' b' c' w0 w3 ia => ?_
  refine draw_ok put_same ia (by decide) (by decide) fun hi a' b' c' h0 h7 ia => ?_
  rw [put_put]
  refine rides_ok put_same ia (ws := ws.take nn) (by rw [put_ne n2p.2, put_same]) (words_take g nn) (by rw [List.length_take]; omega) (by omega) (by omega) fun rs a b c gr rl ia => ?_
  rw [put_put]
  have s2 : Sub (put h p (pl a b c)) (put (put (put (put h p (pl a1 b1 c1)) wl (.lst (ws.map D.str))) w2 (.lst ((ws.take nn).map D.str))) p (pl a b c)) := by
    rw [put_comm n2p.2, put_comm nwp, put_put]
    exact (Sub.put (by rw [put_ne nwp]; exact hq)).trans (Sub.put (by rw [put_ne n2.2, put_ne n2p.2]; exact n2p.1))
  exact less_sub s2 (q (1 + w) rs a b c (by omega) (by omega) gr (by rw [rl, List.length_take]; omega) ia)
end T
set_option Elab.async false
set_option linter.all false
set_option maxRecDepth 100000
set_option maxHeartbeats 1000000
namespace T
open PySem L2 PyProof.Rows
/-! ### texts of data are texts -/
def okC (l : List Nat) : Prop := ∀ c ∈ l, c < 0x110000
theorem strOk_iff {x : Str} : PyData.strOk x = true ↔ okC x.cps.toList := by
  unfold PyData.strOk okC
  rw [← Array.all_toList, List.all_eq_true]
  exact ⟨fun h c hc => of_decide_eq_true (h c hc), fun h c hc => decide_eq_true (h c hc)⟩
theorem okC_app {a b : List Nat} (ha : okC a) (hb : okC b) : okC (a ++ b) := fun c hc => (List.mem_append.mp hc).elim (ha c) (hb c)
theorem char_lt (ch : Char) : ch.toNat < 0x110000 := by
  have h : ch.val.toNat < 0xd800 ∨ (0xdfff < ch.val.toNat ∧ ch.val.toNat < 0x110000) := ch.valid
  show ch.val.toNat < 0x110000
  omega
theorem reprChar_ok {q c : Nat} (h : c < 0x110000) : okC (Builtin.Str.reprChar q c) := by
  have hex : ∀ w, okC (List.replicate w 48 ++ (Nat.toDigits 16 c).map Char.toNat) := fun w x hx => by
    rcases List.mem_append.mp hx with hx | hx
    · rw [List.eq_of_mem_replicate hx]; decide
    · obtain ⟨ch, _, rfl⟩ := List.mem_map.mp hx; exact char_lt ch
  have two : ∀ a b : Nat, a < 0x110000 → b < 0x110000 → okC [a, b] := fun a b ha hb x hx => by
    rcases List.mem_cons.mp hx with rfl | hx
    · exact ha
    · rw [List.mem_singleton.mp hx]; exact hb
  unfold Builtin.Str.reprChar
  dsimp only
  split
  · exact two _ _ (by decide) h
  · split
    · exact two _ _ (by decide) (by decide)
    · split
      · exact two _ _ (by decide) (by decide)
      · split
        · exact two _ _ (by decide) (by decide)
        · split
          · intro x hx; rw [List.mem_singleton.mp hx]; exact h
          · split
            · exact okC_app (two _ _ (by decide) (by decide)) (hex _)
            · split
              · exact okC_app (two _ _ (by decide) (by decide)) (hex _)
              · exact okC_app (two _ _ (by decide) (by decide)) (hex _)
theorem fold_ok (q : Nat) : ∀ (l : List Nat) (acc : Array Nat), okC l → okC acc.toList → okC (l.foldl (fun out c => out ++ (Builtin.Str.reprChar q c).toArray) acc).toList
  | [], acc, _, h => h
  | c :: l, acc, hl, h => by
    refine fold_ok q l _ (fun x hx => hl x (List.mem_cons_of_mem _ hx)) ?_
    have : (acc ++ (Builtin.Str.reprChar q c).toArray).toList = acc.toList ++ Builtin.Str.reprChar q c := by simp
    rw [this]
    exact okC_app h (reprChar_ok (hl c List.mem_cons_self))
theorem reprText_ok {x : Str} (h : PyData.strOk x = true) : PyData.strOk (reprText x) = true := by
  rw [strOk_iff] at h ⊢
  have hq : reprQuote x < 0x110000 := by unfold reprQuote; split <;> decide
  unfold reprText
  rw [Array.toList_push, ← Array.foldl_toList]
  refine okC_app (fold_ok _ _ _ h ?_) ?_
  · intro c hc
    have : c = reprQuote x := by simpa using hc
    rw [this]; exact hq
  · intro c hc
    rw [List.mem_singleton.mp hc]; exact hq
theorem lit_ok {x : Str} (h : PyData.strOk x = true) : okC x.cps.toList := strOk_iff.mp h
theorem join_ok {sep : Str} (hs : okC sep.cps.toList) : ∀ ts : List Str, (∀ t ∈ ts, PyData.strOk t = true) → okC (Str.join sep ts).cps.toList
  | [], _ => fun c hc => by simp [Str.join, Str.empty] at hc
  | [x], h => strOk_iff.mp (h x List.mem_cons_self)
  | x :: y :: r, h => by
    show okC (x ++ sep ++ Str.join sep (y :: r)).cps.toList
    rw [app_cps, app_cps]
    exact okC_app (okC_app (strOk_iff.mp (h x List.mem_cons_self)) hs) (join_ok hs (y :: r) fun t ht => h t (List.mem_cons_of_mem _ ht))
theorem tupleText_ok {ts : List Str} (h : ∀ t ∈ ts, PyData.strOk t = true) : PyData.strOk (tupleText ts) = true := by
  rw [strOk_iff]
  unfold tupleText
  rw [app_cps, app_cps]
  refine okC_app (okC_app (lit_ok (by decide +kernel)) (join_ok (lit_ok (by decide +kernel)) ts h)) ?_
  split <;> exact lit_ok (by decide +kernel)
theorem shownAll_map {α : Type} (f : α → PyData) : ∀ xs : List α, PyData.shownAll (xs.map f) = xs.map fun x => (f x).shown
  | [] => by simp [PyData.shownAll]
  | x :: xs => by rw [List.map_cons, PyData.shownAll, shownAll_map f xs]; rfl
/-- the text of pairs of names -/
def textP (ps : List (Str × Str)) : Str := (PyData.tuple (ps.map pyP)).shown
theorem textP_ok {ps : List (Str × Str)} (g : ∀ p ∈ ps, GoodPair p) : PyData.strOk (textP ps) = true := by
  unfold textP
  have e : (PyData.tuple (ps.map pyP)).shown = tupleText (ps.map fun p => (pyP p).shown) := by rw [PyData.shown, shownAll_map]
  rw [e]
  refine tupleText_ok fun t ht => ?_
  obtain ⟨p, hp, rfl⟩ := List.mem_map.mp ht
  have e2 : (pyP p).shown = tupleText [reprText p.1, reprText p.2] := by simp [PyData.shown, PyData.shownAll]
  rw [e2]
  refine tupleText_ok fun t ht => ?_
  rcases List.mem_cons.mp ht with rfl | ht
  · exact reprText_ok (strOk_good (g p hp).1)
  · rw [List.mem_singleton.mp ht]; exact reprText_ok (strOk_good (g p hp).2)
theorem sum_le {B : Nat} : ∀ l : List Nat, (∀ x ∈ l, x ≤ B) → l.sum ≤ l.length * B
  | [], _ => by simp
  | x :: l, h => by
    have ih := sum_le l fun y hy => h y (List.mem_cons_of_mem _ hy)
    have := h x List.mem_cons_self
    rw [List.sum_cons, List.length_cons, Nat.add_mul]
    omega
theorem textP_len {ps : List (Str × Str)} (g : ∀ p ∈ ps, GoodPair p) (hl : ps.length ≤ 24) : (textP ps).length ≤ 100000 := by
  unfold textP
  have e : (PyData.tuple (ps.map pyP)).shown = tupleText (ps.map fun p => (pyP p).shown) := by rw [PyData.shown, shownAll_map]
  have rl : ∀ w, GoodName w → (reprText w).length ≤ 82 := fun w gw => by
    have := StrLaws.reprText_len w fun c hc => Nat.lt_trans ((lit_ok (strOk_good gw)) c hc) (by decide)
    have := gw.2.1
    omega
  have each : ∀ p ∈ ps, (pyP p).shown.length ≤ 171 := fun p hp => by
    have e2 : (pyP p).shown = tupleText [reprText p.1, reprText p.2] := by simp [PyData.shown, PyData.shownAll]
    have h := tupleText_len_le [reprText p.1, reprText p.2]
    have h1 := rl p.1 (g p hp).1
    have h2 := rl p.2 (g p hp).2
    rw [e2]
    simp at h
    omega
  rw [e]
  refine Nat.le_trans (tupleText_len_le _) ?_
  have := sum_le (B := 171) ((ps.map fun p => (pyP p).shown).map (·.length)) fun x hx => by
    obtain ⟨t, ht, rfl⟩ := List.mem_map.mp hx
    obtain ⟨p, hp, rfl⟩ := List.mem_map.mp ht
    exact each p hp
  simp at this ⊢
  omega
theorem showable_pairs : ∀ ps : List (Str × Str), PyData.showableAll (ps.map pyP) = true
  | [] => by simp [PyData.showableAll]
  | p :: r => by simp [PyData.showableAll, PyData.showable]; exact showable_pairs r
theorem noDict_pairs : ∀ ps : List (Str × Str), PyData.hasDictAll (ps.map pyP) = false
  | [] => by simp [PyData.hasDictAll]
  | p :: r => by simp [PyData.hasDictAll, PyData.hasDict]; exact noDict_pairs r
theorem repr_pairs {ps : List (Str × Str)} {h : TH} {P : TQ} (g : ∀ p ∈ ps, GoodPair p) (hl : ps.length ≤ 24) (q : P (.str (textP ps)) h) : reprD [.tup (ps.map tP)] h P := by
  have e : toPy (.tup (ps.map tP)) = some (.tuple (ps.map pyP)) := by show (toPys (ps.map tP)).map PyData.tuple = _; rw [toPys_pairs]; rfl
  refine ⟨_, e, trivial, by simp only [PyData.showable]; exact showable_pairs ps, by simp only [PyData.hasDict]; exact noDict_pairs ps, ?_, textP_len g hl, q⟩
  have := depth_pairs ps
  simp only [PyData.depth]
  omega
end T
set_option Elab.async false
set_option linter.all false
set_option maxRecDepth 100000
set_option maxHeartbeats 1000000
namespace T
open PySem L2 PyProof.Rows
/-! ### counting -/
theorem covers_iff {x : Int} {r : Ride} : covers x r = true ↔ r.2.1 ≤ x ∧ x < r.2.2 := by simp [covers]
theorem meet_iff {a b : Ride} : meetR a b = true ↔ a.2.1 < b.2.2 ∧ b.2.1 < a.2.2 := by simp [meetR]
theorem cnt_le {l : List Ride} {p q : Ride → Bool} (h : ∀ x ∈ l, p x = true → q x = true) : (l.filter p).length ≤ (l.filter q).length := by
  rw [← List.countP_eq_length_filter, ← List.countP_eq_length_filter]; exact List.countP_mono_left h
theorem cnt_lt {l : List Ride} {p q : Ride → Bool} {r : Ride} (hr : r ∈ l) (h : ∀ x ∈ l, p x = true → q x = true) (hq : q r = true) (hp : p r = false) : (l.filter p).length < (l.filter q).length := by
  have e : (l.filter q).filter p = l.filter p := by
    rw [List.filter_filter]
    refine List.filter_congr fun x hx => ?_
    cases hpx : p x with
    | false => simp
    | true => simp [h x hx hpx]
  rw [← e]
  exact List.length_filter_lt_length_iff_exists.mpr ⟨r, List.mem_filter.mpr ⟨hr, hq⟩, by simp [hp]⟩
theorem load_le {w : Int} {rs : List Ride} (w0 : 0 ≤ w) (n : NoOver w rs) (x : Int) : (loadR rs x : Int) ≤ w := by
  cases e : ((rs.filter (covers x)).map (·.2.1)).max? with
  | none =>
    have h1 := List.max?_eq_none_iff.mp e
    have h2 := List.map_eq_nil_iff.mp h1
    unfold loadR
    rw [h2]; exact w0
  | some m =>
    obtain ⟨h1, h2⟩ := List.max?_eq_some_iff.mp e
    obtain ⟨r, hr, rfl⟩ := List.mem_map.mp h1
    obtain ⟨hr1, hr2⟩ := List.mem_filter.mp hr
    have := cnt_le (l := rs) (p := covers x) (q := covers r.2.1) fun a ha c => by
      have k := h2 a.2.1 (List.mem_map.mpr ⟨a, List.mem_filter.mpr ⟨ha, c⟩, rfl⟩)
      have c := covers_iff.mp c
      have c2 := covers_iff.mp hr2
      exact covers_iff.mpr ⟨k, by omega⟩
    have n' := n r hr1
    unfold loadR at n' ⊢
    omega
theorem back_noOver {w : Int} {rs : List Ride} (w0 : 0 ≤ w) (n : NoOver w rs) : NoOver w (backR rs) := fun r hr => by
  obtain ⟨t, ht, rfl⟩ := List.mem_map.mp hr
  have e : loadR (backR rs) (farR rs - t.2.2) = loadR rs (t.2.2 - 1) := by
    unfold loadR backR
    rw [List.filter_map, List.length_map]
    congr 1
    refine List.filter_congr fun x hx => ?_
    rw [Bool.eq_iff_iff]
    show covers (farR rs - t.2.2) (x.1, farR rs - x.2.2, farR rs - x.2.1) = true ↔ _
    rw [covers_iff, covers_iff]
    dsimp only
    omega
  show (loadR (backR rs) (farR rs - t.2.2) : Int) ≤ w
  rw [e]
  exact load_le w0 n _
/-! ### names -/
theorem names_nd {rs : List Ride} (g : GoodRides rs) : (rs.map (·.1)).Nodup := List.pairwise_map.mpr (g.asc.imp fun {a b} z e => by rw [e, ltS_irrefl] at z; cases z)
theorem name_inj : ∀ {rs : List Ride}, (rs.map (·.1)).Nodup → ∀ {a b : Ride}, a ∈ rs → b ∈ rs → a.1 = b.1 → a = b
  | [], _, _, _, ha, _, _ => (nomatch ha)
  | c :: r, nd, a, b, ha, hb, e => by
    have nd' := List.nodup_cons.mp (show (c.1 :: r.map (·.1)).Nodup from nd)
    rcases List.mem_cons.mp ha with ha1 | ha1
    · rcases List.mem_cons.mp hb with hb1 | hb1
      · exact ha1.trans hb1.symm
      · exact absurd (show c.1 ∈ r.map (·.1) from List.mem_map.mpr ⟨b, hb1, by rw [← e, ha1]⟩) nd'.1
    · rcases List.mem_cons.mp hb with hb1 | hb1
      · exact absurd (show c.1 ∈ r.map (·.1) from List.mem_map.mpr ⟨a, ha1, by rw [e, hb1]⟩) nd'.1
      · exact name_inj nd'.2 ha1 hb1 e
/-! ### plans as functions -/
structure Val (w : Int) (rs : List Ride) (f : Ride → Int) : Prop where
  lo : ∀ r ∈ rs, 1 ≤ f r ∧ f r ≤ w
  df : ∀ a ∈ rs, ∀ b ∈ rs, a ≠ b → a.2.1 < b.2.2 → b.2.1 < a.2.2 → f a ≠ f b
def hOf (f : Ride → Int) (l : List Ride) : Held := l.map fun r => (r.1, f r)
theorem hOf_names (f : Ride → Int) (l : List Ride) : (hOf f l).map (·.1) = l.map (·.1) := by unfold hOf; rw [List.map_map]; rfl
theorem getH_cons (p : Str × Int) (hd : Held) (n : Str) : getH (p :: hd) n = if p.1 = n then some p.2 else getH hd n := by
  unfold getH
  by_cases z : p.1 = n
  · rw [List.find?_cons_of_pos (by simpa using z), if_pos z]; rfl
  · rw [List.find?_cons_of_neg (by simpa using z), if_neg z]
theorem getH_out (f : Ride → Int) : ∀ {l : List Ride} {n : Str}, n ∉ l.map (·.1) → getH (hOf f l) n = none
  | [], _, _ => rfl
  | c :: l, n, h => by
    have h' : ¬ (n = c.1 ∨ n ∈ l.map (·.1)) := fun z => h (List.mem_cons.mpr z)
    have e : getH (hOf f (c :: l)) n = _ := getH_cons (c.1, f c) (hOf f l) n
    rw [e, if_neg (fun z => h' (.inl z.symm))]
    exact getH_out f fun z => h' (.inr z)
theorem getH_in (f : Ride → Int) : ∀ {l : List Ride} {r : Ride}, (l.map (·.1)).Nodup → r ∈ l → getH (hOf f l) r.1 = some (f r)
  | [], _, _, h => (nomatch h)
  | c :: l, r, nd, h => by
    have nd' := List.nodup_cons.mp (show (c.1 :: l.map (·.1)).Nodup from nd)
    have e : getH (hOf f (c :: l)) r.1 = _ := getH_cons (c.1, f c) (hOf f l) r.1
    rw [e]
    rcases List.mem_cons.mp h with rfl | h
    · rw [if_pos rfl]
    · rw [if_neg (fun z => nd'.1 (List.mem_map.mpr ⟨r, h, z.symm⟩))]
      exact getH_in f nd'.2 h
theorem mem_choices {w : Int} {rs : List Ride} {hd : Held} {r : Ride} {s : Int} : s ∈ choicesR w rs hd r ↔ (1 ≤ s ∧ s ≤ w) ∧ s ∉ takenR rs hd r := by
  unfold choicesR
  rw [List.mem_filter, List.mem_map]
  constructor
  · rintro ⟨⟨i, hi, rfl⟩, h⟩
    have := List.mem_range.mp hi
    exact ⟨by omega, by simpa using h⟩
  · rintro ⟨⟨h1, h2⟩, h⟩
    exact ⟨⟨(s - 1).toNat, List.mem_range.mpr (by omega), by omega⟩, by simpa using h⟩
theorem mem_taken {rs l : List Ride} {f : Ride → Int} {r : Ride} {s : Int} (nd : (rs.map (·.1)).Nodup) (nl : (l.map (·.1)).Nodup) (sb : ∀ x ∈ l, x ∈ rs) : s ∈ takenR rs (hOf f l) r ↔ ∃ e ∈ l, meetR e r = true ∧ f e = s := by
  unfold takenR
  rw [List.mem_filterMap]
  constructor
  · rintro ⟨e, he, h⟩
    by_cases z : e.1 ∈ l.map (·.1)
    · obtain ⟨e', he', q⟩ := List.mem_map.mp z
      have := name_inj nd (sb _ he') he q
      subst this
      rw [getH_in f nl he'] at h
      cases m : meetR e' r with
      | false => rw [m] at h; simp at h
      | true => rw [m] at h; simp at h; exact ⟨e', he', m, h⟩
    · rw [getH_out f z] at h
      simp at h
  · rintro ⟨e, he, m, rfl⟩
    exact ⟨e, sb e he, by rw [getH_in f nl he, m]; simp⟩
theorem plans_sound {w : Int} {rs : List Ride} (nd : (rs.map (·.1)).Nodup) : ∀ (n : Nat) (l : List Ride), l.length = n → (l.map (·.1)).Nodup → (∀ x ∈ l, x ∈ rs) → ∀ hd ∈ plansK w rs l, ∃ f, hd = hOf f l ∧ Val w l f := by
  intro n
  induction n with
  | zero =>
    intro l e _ _ hd h
    have : l = [] := List.eq_nil_of_length_eq_zero e
    subst this
    have h : hd ∈ [([] : Held)] := h
    rw [List.mem_singleton.mp h]
    exact ⟨fun _ => 0, rfl, ⟨fun _ h => (nomatch h), fun _ h => (nomatch h)⟩⟩
  | succ n ih =>
    intro l e nl sb hd h
    obtain ⟨l', r, rfl⟩ : ∃ l' r, l = l' ++ [r] := by
      have hne : l ≠ [] := fun z => by rw [z] at e; cases e
      exact ⟨l.dropLast, l.getLast hne, (List.dropLast_concat_getLast hne).symm⟩
    rw [plansK_snoc] at h
    unfold stepP at h
    obtain ⟨hd', h1, h2⟩ := List.mem_flatMap.mp h
    obtain ⟨s, hs, rfl⟩ := List.mem_map.mp h2
    rw [List.map_append] at nl
    obtain ⟨nl1, _, nl3⟩ := List.nodup_append.mp nl
    have sb1 : ∀ x ∈ l', x ∈ rs := fun x hx => sb x (List.mem_append_left _ hx)
    obtain ⟨f, rfl, v⟩ := ih l' (by simpa using e) nl1 sb1 hd' h1
    obtain ⟨hs1, hs2⟩ := mem_choices.mp hs
    rw [mem_taken nd nl1 sb1] at hs2
    have nr : ∀ x ∈ l', x ≠ r := fun x hx z => nl3 x.1 (List.mem_map.mpr ⟨x, hx, rfl⟩) r.1 (by simp) (by rw [z])
    refine ⟨fun x => if x = r then s else f x, ?_, ⟨fun x hx => ?_, fun a ha b hb ab m1 m2 => ?_⟩⟩
    · unfold hOf
      rw [List.map_append]
      congr 1
      · refine List.map_congr_left fun x hx => ?_
        show (x.1, f x) = (x.1, if x = r then s else f x)
        rw [if_neg (nr x hx)]
      · simp
    · rcases List.mem_append.mp hx with hx | hx
      · rw [if_neg (nr x hx)]; exact v.lo x hx
      · rw [if_pos (List.mem_singleton.mp hx)]; exact hs1
    · rcases List.mem_append.mp ha with ha1 | ha1 <;> rcases List.mem_append.mp hb with hb1 | hb1
      · rw [if_neg (nr a ha1), if_neg (nr b hb1)]; exact v.df a ha1 b hb1 ab m1 m2
      · have := List.mem_singleton.mp hb1
        subst this
        rw [if_neg (nr a ha1), if_pos rfl]
        exact fun z => hs2 ⟨a, ha1, meet_iff.mpr ⟨m1, m2⟩, z⟩
      · have := List.mem_singleton.mp ha1
        subst this
        rw [if_neg (nr b hb1), if_pos rfl]
        exact fun z => hs2 ⟨b, hb1, meet_iff.mpr ⟨m2, m1⟩, z.symm⟩
      · exact absurd ((List.mem_singleton.mp ha1).trans (List.mem_singleton.mp hb1).symm) ab
theorem plans_complete {w : Int} {rs : List Ride} {f : Ride → Int} (nd : (rs.map (·.1)).Nodup) (v : Val w rs f) : ∀ (n : Nat) (l : List Ride), l.length = n → (l.map (·.1)).Nodup → (∀ x ∈ l, x ∈ rs) → hOf f l ∈ plansK w rs l := by
  intro n
  induction n with
  | zero =>
    intro l e _ _
    have : l = [] := List.eq_nil_of_length_eq_zero e
    subst this
    exact List.mem_singleton.mpr rfl
  | succ n ih =>
    intro l e nl sb
    obtain ⟨l', r, rfl⟩ : ∃ l' r, l = l' ++ [r] := by
      have hne : l ≠ [] := fun z => by rw [z] at e; cases e
      exact ⟨l.dropLast, l.getLast hne, (List.dropLast_concat_getLast hne).symm⟩
    rw [plansK_snoc]
    rw [List.map_append] at nl
    obtain ⟨nl1, _, nl3⟩ := List.nodup_append.mp nl
    have sb1 : ∀ x ∈ l', x ∈ rs := fun x hx => sb x (List.mem_append_left _ hx)
    have hr : r ∈ rs := sb r (by simp)
    have nr : ∀ x ∈ l', x ≠ r := fun x hx z => nl3 x.1 (List.mem_map.mpr ⟨x, hx, rfl⟩) r.1 (by simp) (by rw [z])
    refine List.mem_flatMap.mpr ⟨hOf f l', ih l' (by simpa using e) nl1 sb1, List.mem_map.mpr ⟨f r, mem_choices.mpr ⟨v.lo r hr, ?_⟩, by unfold hOf; rw [List.map_append]; rfl⟩⟩
    rw [mem_taken nd nl1 sb1]
    rintro ⟨x, hx, m, z⟩
    have m := meet_iff.mp m
    exact v.df x (sb1 x hx) r hr (nr x hx) m.1 m.2 z
theorem plans_next {w : Int} {rs : List Ride} (nd : (rs.map (·.1)).Nodup) (w0 : 0 ≤ w) (n : NoOver w rs) : ∀ (m : Nat) (l : List Ride), l.length = m → (l.map (·.1)).Nodup → (∀ x ∈ l, x ∈ rs) → l.Pairwise (fun a b => a.2.1 ≤ b.2.1) → (∀ x ∈ l, x.2.1 < x.2.2) → ∃ f, Val w l f := by
  intro m
  induction m with
  | zero =>
    intro l e _ _ _ _
    have : l = [] := List.eq_nil_of_length_eq_zero e
    subst this
    exact ⟨fun _ => 0, ⟨fun _ h => (nomatch h), fun _ h => (nomatch h)⟩⟩
  | succ m ih =>
    intro l e nl sb pw lt
    obtain ⟨l', r, rfl⟩ : ∃ l' r, l = l' ++ [r] := by
      have hne : l ≠ [] := fun z => by rw [z] at e; cases e
      exact ⟨l.dropLast, l.getLast hne, (List.dropLast_concat_getLast hne).symm⟩
    rw [List.map_append] at nl
    obtain ⟨nl1, _, nl3⟩ := List.nodup_append.mp nl
    have sb1 : ∀ x ∈ l', x ∈ rs := fun x hx => sb x (List.mem_append_left _ hx)
    have hr : r ∈ rs := sb r (by simp)
    have nr : ∀ x ∈ l', x ≠ r := fun x hx z => nl3 x.1 (List.mem_map.mpr ⟨x, hx, rfl⟩) r.1 (by simp) (by rw [z])
    obtain ⟨pw1, _, pw3⟩ := List.pairwise_append.mp pw
    obtain ⟨f, v⟩ := ih l' (by simpa using e) nl1 sb1 pw1 fun x hx => lt x (List.mem_append_left _ hx)
    -- a seat that is free
    have free : ∃ s : Int, (1 ≤ s ∧ s ≤ w) ∧ ∀ x ∈ l', meetR x r = true → f x ≠ s := by
      refine Classical.byContradiction fun no => ?_
      have hsub : ((List.range w.toNat).map fun i : Nat => 1 + (i : Int)) ⊆ ((l'.filter fun x => meetR x r).map f) := fun s hs => by
        obtain ⟨i, hi, rfl⟩ := List.mem_map.mp hs
        have hi := List.mem_range.mp hi
        refine Classical.byContradiction fun h => no ⟨1 + (i : Int), by omega, fun x hx m z => h (List.mem_map.mpr ⟨x, List.mem_filter.mpr ⟨hx, m⟩, z⟩)⟩
      have hnd : ((List.range w.toNat).map fun i : Nat => 1 + (i : Int)).Nodup := List.pairwise_map.mpr (List.nodup_range.imp fun {a b} h z => h (by omega))
      have h1 := hnd.length_le_of_subset hsub
      rw [List.length_map, List.length_map, List.length_range] at h1
      have ndl : l'.Nodup := (List.pairwise_map.mp nl1).imp fun {a b} h z => h (by rw [z])
      have h2 : (l'.filter fun x => meetR x r).length ≤ (rs.filter fun x => covers r.2.1 x && decide (x ≠ r)).length := by
        refine List.Nodup.length_le_of_subset (ndl.filter _) fun x hx => ?_
        obtain ⟨hx, m⟩ := List.mem_filter.mp hx
        have m := meet_iff.mp m
        have := pw3 x hx r (by simp)
        exact List.mem_filter.mpr ⟨sb1 x hx, by simp [covers_iff.mpr ⟨this, m.2⟩, nr x hx]⟩
      have ltr := lt r (by simp)
      have h3 := cnt_lt (p := fun x => covers r.2.1 x && decide (x ≠ r)) (q := covers r.2.1) hr (fun x _ h => by simp at h; exact h.1) (covers_iff.mpr ⟨Int.le_refl _, ltr⟩) (by simp)
      have h4 := n r hr
      unfold loadR at h4
      omega
    obtain ⟨s, hs1, hs2⟩ := free
    refine ⟨fun x => if x = r then s else f x, ⟨fun x hx => ?_, fun a ha b hb ab m1 m2 => ?_⟩⟩
    · rcases List.mem_append.mp hx with hx | hx
      · rw [if_neg (nr x hx)]; exact v.lo x hx
      · rw [if_pos (List.mem_singleton.mp hx)]; exact hs1
    · rcases List.mem_append.mp ha with ha1 | ha1 <;> rcases List.mem_append.mp hb with hb1 | hb1
      · rw [if_neg (nr a ha1), if_neg (nr b hb1)]; exact v.df a ha1 b hb1 ab m1 m2
      · have := List.mem_singleton.mp hb1
        subst this
        rw [if_neg (nr a ha1), if_pos rfl]
        exact hs2 a ha1 (meet_iff.mpr ⟨m1, m2⟩)
      · have := List.mem_singleton.mp ha1
        subst this
        rw [if_neg (nr b hb1), if_pos rfl]
        exact fun z => hs2 b hb1 (meet_iff.mpr ⟨m2, m1⟩) z.symm
      · exact absurd ((List.mem_singleton.mp ha1).trans (List.mem_singleton.mp hb1).symm) ab
end T
set_option Elab.async false
set_option linter.all false
set_option maxRecDepth 100000
set_option maxHeartbeats 1000000
namespace T
open PySem L2 PyProof.Rows
theorem getH_tab (g : Str → Int) : ∀ {ns : List Str} {n : Str}, n ∈ ns → getH (ns.map fun n => (n, g n)) n = some (g n)
  | [], _, h => (nomatch h)
  | c :: ns, n, h => by
    have e : getH ((c :: ns).map fun n => (n, g n)) n = _ := getH_cons (c, g c) (ns.map fun n => (n, g n)) n
    rw [e]
    by_cases z : c = n
    · rw [if_pos z, z]
    · rw [if_neg z]
      exact getH_tab g ((List.mem_cons.mp h).resolve_left fun q => z q.symm)
theorem getH_flat {hd : Held} {n : Str} {i : Int} (h : n ∈ hd.map (·.1)) (e : getH hd n = some i) : getH (flatH hd) n = some i := by
  unfold flatH
  rw [getH_tab (fun n => (getH hd n).getD 0) ((sortS_perm _).mem_iff.mpr h), e]; rfl
theorem start_nd {rs : List Ride} (nd : (rs.map (·.1)).Nodup) : ((byStart rs).map (·.1)).Nodup := (((byStart_perm rs).map (·.1)).nodup_iff).mpr nd
theorem start_mem {rs : List Ride} {r : Ride} : r ∈ byStart rs ↔ r ∈ rs := (byStart_perm rs).mem_iff
theorem all_sound {w : Int} {rs : List Ride} (nd : (rs.map (·.1)).Nodup) {pl : Held} (h : pl ∈ allP w rs) : ∃ f, Val w rs f ∧ ∀ r ∈ rs, getH pl r.1 = some (f r) := by
  obtain ⟨hd, hm, rfl⟩ := List.mem_map.mp h
  obtain ⟨f, rfl, v⟩ := plans_sound nd _ (byStart rs) rfl (start_nd nd) (fun x hx => start_mem.mp hx) hd hm
  refine ⟨f, ⟨fun r hr => v.lo r (start_mem.mpr hr), fun a ha b hb => v.df a (start_mem.mpr ha) b (start_mem.mpr hb)⟩, fun r hr => ?_⟩
  refine getH_flat ?_ (getH_in f (start_nd nd) (start_mem.mpr hr))
  rw [hOf_names]
  exact List.mem_map.mpr ⟨r, start_mem.mpr hr, rfl⟩
theorem all_complete {w : Int} {rs : List Ride} (nd : (rs.map (·.1)).Nodup) {f : Ride → Int} (v : Val w rs f) : ∃ pl ∈ allP w rs, ∀ r ∈ rs, getH pl r.1 = some (f r) := by
  refine ⟨flatH (hOf f (byStart rs)), List.mem_map.mpr ⟨_, plans_complete nd v _ (byStart rs) rfl (start_nd nd) (fun x hx => start_mem.mp hx), rfl⟩, fun r hr => ?_⟩
  refine getH_flat ?_ (getH_in f (start_nd nd) (start_mem.mpr hr))
  rw [hOf_names]
  exact List.mem_map.mpr ⟨r, start_mem.mpr hr, rfl⟩
theorem val_some {w : Int} {rs : List Ride} (g : GoodRides rs) (w1 : 0 ≤ w) (n : NoOver w rs) : ∃ f, Val w rs f := by
  obtain ⟨f, v⟩ := plans_next (names_nd g) w1 n _ (byStart rs) rfl (start_nd (names_nd g)) (fun x hx => start_mem.mp hx) (byStart_pw rs) (fun x hx => (g.each x (start_mem.mp hx)).lt)
  exact ⟨f, ⟨fun r hr => v.lo r (start_mem.mpr hr), fun a ha b hb => v.df a (start_mem.mpr ha) b (start_mem.mpr hb)⟩⟩
theorem plans_some {w : Int} {rs : List Ride} (g : GoodRides rs) (w1 : 1 ≤ w) (n : NoOver w rs) : allP w rs ≠ [] := fun z => by
  obtain ⟨f, v⟩ := val_some g (by omega) n
  obtain ⟨pl, h, _⟩ := all_complete (names_nd g) v
  rw [z] at h; cases h
/-! ### neighbours in a row -/
theorem zip_adj : ∀ {l : List Ride}, l.Pairwise (fun a b => a.2.2 ≤ b.2.1) → (∀ x ∈ l, x.2.1 < x.2.2) → ∀ a b : Ride, (a, b) ∈ l.zip (l.drop 1) ↔ a ∈ l ∧ b ∈ l ∧ a.2.2 ≤ b.2.1 ∧ ∀ x ∈ l, ¬ (a.2.2 ≤ x.2.1 ∧ x.2.1 < b.2.1)
  | [], _, _, a, b => by simp
  | [c], pw, lt, a, b => by
    have hc := lt c (by simp)
    simp
    rintro rfl rfl
    omega
  | c :: d :: l, pw, lt, a, b => by
    have pw' := List.pairwise_cons.mp pw
    have pd := List.pairwise_cons.mp pw'.2
    have ih := zip_adj (l := d :: l) pw'.2 (fun x hx => lt x (List.mem_cons_of_mem _ hx)) a b
    have hc := lt c (by simp)
    have hd := lt d (by simp)
    have cd := pw'.1 d (by simp)
    show (a, b) ∈ (c, d) :: (d :: l).zip l ↔ _
    have e : (d :: l).drop 1 = l := rfl
    rw [e] at ih
    rw [List.mem_cons, ih]
    constructor
    · rintro (z | ⟨ha, hb, ab, no⟩)
      · cases z
        refine ⟨by simp, by simp, cd, fun x hx => ?_⟩
        rcases List.mem_cons.mp hx with rfl | hx
        · omega
        · rcases List.mem_cons.mp hx with rfl | hx
          · omega
          · have := pd.1 x hx
            omega
      · refine ⟨List.mem_cons_of_mem _ ha, List.mem_cons_of_mem _ hb, ab, fun x hx => ?_⟩
        rcases List.mem_cons.mp hx with rfl | hx
        · have h1 := pw'.1 a ha
          have h2 := lt a (List.mem_cons_of_mem _ ha)
          omega
        · exact no x hx
    · rintro ⟨ha, hb, ab, no⟩
      rcases List.mem_cons.mp ha with ha1 | ha1
      · rcases List.mem_cons.mp hb with hb1 | hb1
        · rw [ha1, hb1] at ab; omega
        · rcases List.mem_cons.mp hb1 with hb2 | hb2
          · exact .inl (by rw [ha1, hb2])
          · have h1 := pd.1 b hb2
            have h2 := no d (by simp)
            rw [ha1] at h2
            omega
      · rcases List.mem_cons.mp hb with hb1 | hb1
        · have h1 := pw'.1 a ha1
          have h2 := lt a (List.mem_cons_of_mem _ ha1)
          rw [hb1] at ab
          omega
        · exact .inr ⟨ha1, hb1, ab, fun x hx => no x (List.mem_cons_of_mem _ hx)⟩
structure Next (f : Ride → Int) (rs : List Ride) (t u : Ride) : Prop where
  ht : t ∈ rs
  hu : u ∈ rs
  same : f t = f u
  le : t.2.2 ≤ u.2.1
  no : ∀ x ∈ rs, f x = f t → ¬ (t.2.2 ≤ x.2.1 ∧ x.2.1 < u.2.1)
theorem row_iff {rs : List Ride} {pl : Held} {f : Ride → Int} (hf : ∀ r ∈ rs, getH pl r.1 = some (f r)) (s : Int) : ((byStart rs).filter fun r => decide (getH pl r.1 = some s)) = (byStart rs).filter fun r => decide (f r = s) :=
  List.filter_congr fun r hr => by rw [hf r (start_mem.mp hr)]; simp
theorem next_iff {w : Int} {rs : List Ride} {pl : Held} {f : Ride → Int} (g : GoodRides rs) (v : Val w rs f) (hf : ∀ r ∈ rs, getH pl r.1 = some (f r)) (p : Str × Str) : p ∈ nextP w rs pl ↔ ∃ t u, p = (t.1, u.1) ∧ Next f rs t u := by
  have row : ∀ s, ((byStart rs).filter fun r => decide (f r = s)).Pairwise fun a b => a.2.2 ≤ b.2.1 := fun s => by
    have nd : (byStart rs).Nodup := (List.pairwise_map.mp (start_nd (names_nd g))).imp fun {a b} h z => h (by rw [z])
    have := ((byStart_pw rs).and nd).filter fun r => decide (f r = s)
    refine this.imp_of_mem fun {a b} ha hb h => ?_
    obtain ⟨ha, sa⟩ := List.mem_filter.mp ha
    obtain ⟨hb, sb⟩ := List.mem_filter.mp hb
    have la := (g.each a (start_mem.mp ha)).lt
    have lb := (g.each b (start_mem.mp hb)).lt
    refine Classical.byContradiction fun no => ?_
    exact v.df a (start_mem.mp ha) b (start_mem.mp hb) h.2 (by omega) (by omega) ((of_decide_eq_true sa).trans (of_decide_eq_true sb).symm)
  have lt : ∀ s, ∀ x ∈ (byStart rs).filter (fun r => decide (f r = s)), x.2.1 < x.2.2 := fun s x hx => (g.each x (start_mem.mp (List.mem_filter.mp hx).1)).lt
  unfold nextP
  rw [List.mem_flatMap]
  constructor
  · rintro ⟨i, hi, h⟩
    unfold pairsP rowP at h
    rw [row_iff hf, ← List.map_drop, List.zip_map] at h
    obtain ⟨⟨t, u⟩, htu, rfl⟩ := List.mem_map.mp h
    obtain ⟨ht, hu, le, no⟩ := (zip_adj (row _) (lt _) t u).mp htu
    obtain ⟨ht, st⟩ := List.mem_filter.mp ht
    obtain ⟨hu, su⟩ := List.mem_filter.mp hu
    have st := of_decide_eq_true st
    have su := of_decide_eq_true su
    exact ⟨t, u, rfl, start_mem.mp ht, start_mem.mp hu, st.trans su.symm, le, fun x hx e => no x (List.mem_filter.mpr ⟨start_mem.mpr hx, decide_eq_true (e.trans st)⟩)⟩
  · rintro ⟨t, u, rfl, n⟩
    have lo := v.lo t n.ht
    refine ⟨(f t - 1).toNat, List.mem_range.mpr (by omega), ?_⟩
    have e : 1 + (((f t - 1).toNat : Nat) : Int) = f t := by omega
    unfold pairsP rowP
    rw [e, row_iff hf, ← List.map_drop, List.zip_map]
    refine List.mem_map.mpr ⟨(t, u), (zip_adj (row _) (lt _) t u).mpr ⟨List.mem_filter.mpr ⟨start_mem.mpr n.ht, by simp⟩, List.mem_filter.mpr ⟨start_mem.mpr n.hu, by simp [n.same]⟩, n.le, fun x hx => ?_⟩, rfl⟩
    obtain ⟨hx, sx⟩ := List.mem_filter.mp hx
    exact n.no x (start_mem.mp hx) (of_decide_eq_true sx)
theorem keep_mem {w : Int} {rs : List Ride} {p : Str × Str} : ∀ {rest : List Held} {f : List (Str × Str)}, p ∈ rest.foldl (keepF w rs) f ↔ p ∈ f ∧ ∀ pl ∈ rest, p ∈ nextP w rs pl
  | [], f => by simp
  | q :: r, f => by
    rw [List.foldl_cons, keep_mem]
    unfold keepF
    rw [List.mem_filter]
    simp
    exact and_assoc
theorem every_mem {w : Int} {rs : List Ride} {p : Str × Str} (ne : allP w rs ≠ []) : p ∈ everyP w rs ↔ ∀ pl ∈ allP w rs, p ∈ nextP w rs pl := by
  unfold everyP everyF
  rw [(sortP_perm _).mem_iff]
  cases e : allP w rs with
  | nil => exact absurd e ne
  | cons q r => rw [keep_mem]; simp
theorem every_val {w : Int} {rs : List Ride} (g : GoodRides rs) (ne : allP w rs ≠ []) (p : Str × Str) : p ∈ everyP w rs ↔ ∀ f, Val w rs f → ∃ t u, p = (t.1, u.1) ∧ Next f rs t u := by
  rw [every_mem ne]
  constructor
  · intro h f v
    obtain ⟨pl, hp, hf⟩ := all_complete (names_nd g) v
    exact (next_iff g v hf p).mp (h pl hp)
  · intro h pl hp
    obtain ⟨f, v, hf⟩ := all_sound (names_nd g) hp
    exact (next_iff g v hf p).mpr (h f v)
theorem zip_fst {α β : Type} : ∀ (l : List α) (m : List β), ((l.zip m).map (·.1)).Sublist l
  | [], _ => by simp
  | _ :: _, [] => by simp
  | a :: l, b :: m => by
    show (a :: (l.zip m).map (·.1)).Sublist (a :: l)
    exact (zip_fst l m).cons_cons a
theorem every_nd {w : Int} {rs : List Ride} (g : GoodRides rs) (ne : allP w rs ≠ []) : ((everyF w rs).map (·.1)).Nodup := by
  unfold everyF
  cases e : allP w rs with
  | nil => exact absurd e ne
  | cons q r =>
    have nd : ((nextP w rs q).map (·.1)).Nodup := by
      refine List.pairwise_map.mpr ?_
      unfold nextP
      rw [List.pairwise_flatMap]
      refine ⟨fun i hi => List.pairwise_map.mp (((zip_fst _ _).nodup) ?_), List.nodup_range.imp fun {i j} ij x hx y hy z => ?_⟩
      · unfold rowP
        exact (List.filter_sublist.map _).nodup (start_nd (names_nd g))
      · have rowm : ∀ s n, n ∈ rowP rs q s → getH q n = some s := fun s n h => by
          obtain ⟨r, hr, rfl⟩ := List.mem_map.mp h
          exact of_decide_eq_true (List.mem_filter.mp hr).2
        have hx := rowm _ _ (List.of_mem_zip (b := x.2) hx).1
        have hy := rowm _ _ (List.of_mem_zip (b := y.2) hy).1
        rw [z, hy] at hx
        injection hx with hx
        exact ij (by omega)
    exact ((keep_sub r (nextP w rs q)).map _).nodup nd
end T
set_option Elab.async false
set_option linter.all false
set_option maxRecDepth 100000
set_option maxHeartbeats 1000000
namespace T
open PySem L2 PyProof.Rows
/-! ### seats at one station -/
theorem here_nd {w : Int} {rs : List Ride} {f : Ride → Int} (g : GoodRides rs) (v : Val w rs f) (x : Int) : ((rs.filter (covers x)).map f).Nodup := by
  have nd : rs.Nodup := (List.pairwise_map.mp (names_nd g)).imp fun {a b} h z => h (by rw [z])
  refine List.pairwise_map.mpr ((nd.filter (covers x)).imp_of_mem fun {a b} ha hb h => ?_)
  obtain ⟨ha, ca⟩ := List.mem_filter.mp ha
  obtain ⟨hb, cb⟩ := List.mem_filter.mp hb
  have ca := covers_iff.mp ca
  have cb := covers_iff.mp cb
  exact v.df a ha b hb h (by omega) (by omega)
theorem seats_nd (w : Int) : ((List.range w.toNat).map fun i : Nat => 1 + (i : Int)).Nodup := List.pairwise_map.mpr (List.nodup_range.imp fun {a b} h z => h (by omega))
theorem seats_mem {w s : Int} : s ∈ ((List.range w.toNat).map fun i : Nat => 1 + (i : Int)) ↔ 1 ≤ s ∧ s ≤ w := by
  rw [List.mem_map]
  constructor
  · rintro ⟨i, hi, rfl⟩
    have := List.mem_range.mp hi
    omega
  · rintro ⟨h1, h2⟩
    exact ⟨(s - 1).toNat, List.mem_range.mpr (by omega), by omega⟩
theorem seat_used {w : Int} {rs : List Ride} {f : Ride → Int} (g : GoodRides rs) (v : Val w rs f) {x s : Int} (l : ¬ (loadR rs x : Int) < w) (h1 : 1 ≤ s) (h2 : s ≤ w) : ∃ a ∈ rs, (a.2.1 ≤ x ∧ x < a.2.2) ∧ f a = s := by
  refine Classical.byContradiction fun no => ?_
  have nd : (s :: (rs.filter (covers x)).map f).Nodup := List.nodup_cons.mpr ⟨fun h => by
    obtain ⟨a, ha, e⟩ := List.mem_map.mp h
    obtain ⟨ha, ca⟩ := List.mem_filter.mp ha
    exact no ⟨a, ha, covers_iff.mp ca, e⟩, here_nd g v x⟩
  have k := nd.length_le_of_subset (l₂ := (List.range w.toNat).map fun i : Nat => 1 + (i : Int)) fun y hy => by
    rw [seats_mem]
    rcases List.mem_cons.mp hy with rfl | hy
    · exact ⟨h1, h2⟩
    · obtain ⟨a, ha, rfl⟩ := List.mem_map.mp hy
      exact v.lo a (List.mem_filter.mp ha).1
  rw [List.length_cons, List.length_map, List.length_map, List.length_range] at k
  unfold loadR at l
  omega
theorem seat_free {w : Int} {rs : List Ride} {f : Ride → Int} {x : Int} (l : (loadR rs x : Int) < w) : ∃ s : Int, (1 ≤ s ∧ s ≤ w) ∧ ∀ a ∈ rs, a.2.1 ≤ x → x < a.2.2 → f a ≠ s := by
  refine Classical.byContradiction fun no => ?_
  have k := (seats_nd w).length_le_of_subset (l₂ := (rs.filter (covers x)).map f) fun y hy => by
    refine Classical.byContradiction fun h => no ⟨y, seats_mem.mp hy, fun a ha c1 c2 z => h (List.mem_map.mpr ⟨a, List.mem_filter.mpr ⟨ha, covers_iff.mpr ⟨c1, c2⟩⟩, z⟩)⟩
  rw [List.length_map, List.length_map, List.length_range] at k
  unfold loadR at l
  omega
/-! ### two seats change places from a station on -/
def swp (p q v : Int) : Int := if v = p then q else if v = q then p else v
theorem swap_val {w : Int} {rs : List Ride} {f : Ride → Int} (v : Val w rs f) (c p q : Int) (hp : 1 ≤ p ∧ p ≤ w) (hq : 1 ≤ q ∧ q ≤ w) (cross : ∀ a ∈ rs, ∀ b ∈ rs, a.2.1 < c → c ≤ b.2.1 → b.2.1 < a.2.2 → (f b = p → f a ≠ q) ∧ (f b = q → f a ≠ p)) :
    Val w rs (fun x => if c ≤ x.2.1 then swp p q (f x) else f x) := by
  refine ⟨fun r hr => ?_, fun a ha b hb ab m1 m2 => ?_⟩
  · have := v.lo r hr
    unfold swp
    repeat' split
    all_goals omega
  · have n := v.df a ha b hb ab m1 m2
    by_cases ca : c ≤ a.2.1 <;> by_cases cb : c ≤ b.2.1
    · simp only [if_pos ca, if_pos cb]
      unfold swp
      repeat' split
      all_goals omega
    · have k := cross b hb a ha (by omega) ca m1
      simp only [if_pos ca, if_neg cb]
      unfold swp
      repeat' split
      all_goals omega
    · have k := cross a ha b hb (by omega) cb m2
      simp only [if_neg ca, if_pos cb]
      unfold swp
      repeat' split
      all_goals omega
    · simp only [if_neg ca, if_neg cb]
      exact n
/-! ### the only one that may follow -/
theorem mem_starts {rs : List Ride} {t : Ride} {s : Int} : s ∈ startsOf rs t ↔ ∃ o ∈ rs, o ≠ t ∧ t.2.2 ≤ o.2.1 ∧ o.2.1 = s := by
  unfold startsOf
  rw [List.mem_map]
  constructor
  · rintro ⟨o, ho, rfl⟩
    obtain ⟨ho, h3⟩ := List.mem_filter.mp ho
    obtain ⟨ho, h1⟩ := List.mem_filter.mp ho
    exact ⟨o, ho, by simpa using h1, of_decide_eq_true h3, rfl⟩
  · rintro ⟨o, ho, h1, h3, rfl⟩
    exact ⟨o, List.mem_filter.mpr ⟨List.mem_filter.mpr ⟨ho, by simpa using h1⟩, decide_eq_true h3⟩, rfl⟩
theorem near_iff {e first : Int} {o : Ride} : near e first o = true ↔ (e ≤ o.2.1 ∧ o.2.1 ≤ first) ∨ (e ≤ o.2.2 ∧ o.2.2 ≤ first) := by simp [near]
theorem mem_near {rs : List Ride} {t o : Ride} {first : Int} : o ∈ ((rs.filter fun o => !decide (o = t)).filter (near t.2.2 first)) ↔ o ∈ rs ∧ o ≠ t ∧ ((t.2.2 ≤ o.2.1 ∧ o.2.1 ≤ first) ∨ (t.2.2 ≤ o.2.2 ∧ o.2.2 ≤ first)) := by
  rw [List.mem_filter, List.mem_filter, near_iff]
  simp [and_assoc]
theorem one_of {α : Type} : ∀ {l : List α} {u : α}, l.Nodup → u ∈ l → (∀ x ∈ l, x = u) → l = [u]
  | [], _, _, h, _ => (nomatch h)
  | [a], u, _, _, h => by rw [h a (by simp)]
  | a :: b :: l, u, nd, _, h => by
    have := (List.nodup_cons.mp nd).1
    rw [h a (by simp), h b (by simp)] at this
    exact absurd List.mem_cons_self this
theorem follow_suff {w : Int} {rs : List Ride} {t : Ride} {x : Str} (g : GoodRides rs) (ht : t ∈ rs) (e : follower w rs t = some x) : ∃ u, x = u.1 ∧ ∀ f, Val w rs f → Next f rs t u := by
  unfold follower at e
  split at e
  · cases e
  · rename_i full
    split at e
    · cases e
    · rename_i first em
      split at e
      · rename_i y en
        injection e with e
        subst e
        obtain ⟨h1, h2⟩ := List.min?_eq_some_iff.mp em
        obtain ⟨u, hu, ut, tu, us⟩ := mem_starts.mp h1
        have tl := (g.each t ht).lt
        have ul := (g.each u hu).lt
        unfold nearOf at en
        obtain ⟨L, eL⟩ : ∃ L, ((rs.filter fun o => !decide (o = t)).filter (near t.2.2 first)) = L := ⟨_, rfl⟩
        have hL : ∀ o, o ∈ L ↔ o ∈ rs ∧ o ≠ t ∧ ((t.2.2 ≤ o.2.1 ∧ o.2.1 ≤ first) ∨ (t.2.2 ≤ o.2.2 ∧ o.2.2 ≤ first)) := fun o => by rw [← eL]; exact mem_near
        rw [eL] at en
        match L, en, hL with
        | [z], en, hL =>
          injection en with en
          have uz : u = z := List.mem_singleton.mp ((hL u).mpr ⟨hu, ut, .inl ⟨tu, by omega⟩⟩)
          refine ⟨u, by rw [uz, ← en], fun f v => ⟨ht, hu, ?_, tu, fun x hx ex nx => ?_⟩⟩
          · obtain ⟨a, ha, ca, ea⟩ := seat_used g v full (v.lo u hu).1 (v.lo u hu).2
            by_cases zt : a = t
            · rw [← zt]; exact ea
            · by_cases zu : a = u
              · rw [zu] at ca; omega
              · refine absurd (List.mem_singleton.mp ((hL a).mpr ⟨ha, zt, .inr ⟨by omega, ?_⟩⟩)) (fun q => zu (q.trans uz.symm))
                refine Classical.byContradiction fun no => v.df a ha u hu zu (by omega) (by omega) ea
          · have := h2 x.2.1 (mem_starts.mpr ⟨x, hx, fun z => by rw [z] at nx; omega, nx.1, rfl⟩)
            omega
      · cases e
theorem follow_nec {w : Int} {rs : List Ride} {t u : Ride} (g : GoodRides rs) (w1 : 1 ≤ w) (n : NoOver w rs) (h : ∀ f, Val w rs f → Next f rs t u) : follower w rs t = some u.1 := by
  obtain ⟨f, v⟩ := val_some g (by omega) n
  have N := h f v
  have ht := N.ht
  have hu := N.hu
  have tl := (g.each t ht).lt
  have ul := (g.each u hu).lt
  have tu := N.le
  have ut : u ≠ t := fun z => by rw [z] at tu; omega
  have full : ¬ (loadR rs (t.2.2 - 1) : Int) < w := fun hlt => by
    obtain ⟨s, hs, free⟩ := seat_free (f := f) hlt
    have st := free t ht (by omega) (by omega)
    have v2 := swap_val v t.2.2 (f t) s (v.lo t ht) hs fun a ha b hb ca cb m => by
      refine ⟨fun _ => free a ha (by omega) (by omega), fun _ => ?_⟩
      refine v.df a ha t ht (fun z => by rw [z] at m; omega) (by omega) (by omega)
    have N2 := (h _ v2).same
    rw [if_neg (by omega), if_pos tu, ← N.same] at N2
    unfold swp at N2
    rw [if_pos rfl] at N2
    exact st N2
  unfold follower
  rw [if_neg full]
  cases em : (startsOf rs t).min? with
  | none =>
    have z := List.min?_eq_none_iff.mp em
    have := mem_starts.mpr ⟨u, hu, ut, tu, rfl⟩
    rw [z] at this; cases this
  | some first =>
    obtain ⟨h1, h2⟩ := List.min?_eq_some_iff.mp em
    obtain ⟨o0, ho0, ot0, to0, os0⟩ := mem_starts.mp h1
    have fu := h2 u.2.1 (mem_starts.mpr ⟨u, hu, ut, tu, rfl⟩)
    have only : ∀ o ∈ rs, o ≠ t → ((t.2.2 ≤ o.2.1 ∧ o.2.1 ≤ first) ∨ (t.2.2 ≤ o.2.2 ∧ o.2.2 ≤ first)) → o = u := fun o ho ot no => Classical.byContradiction fun ou => by
      have ol := (g.each o ho).lt
      have so : t.2.2 ≤ o.2.1 → first ≤ o.2.1 := fun k => h2 o.2.1 (mem_starts.mpr ⟨o, ho, ot, k, rfl⟩)
      have ft : f o ≠ f t := fun z => by
        by_cases k : t.2.2 ≤ o.2.1
        · have k2 := N.no o ho z
          have k3 := so k
          exact v.df o ho u hu ou (by omega) (by omega) (z.trans N.same)
        · exact v.df o ho t ht ot (by omega) (by omega) z
      have v2 := swap_val v first (f t) (f o) (v.lo t ht) (v.lo o ho) fun a ha b hb ca cb m => by
        have at' : a ≠ t := fun z => by rw [z] at m; omega
        have sa : a.2.1 < t.2.2 := Classical.byContradiction fun k => by
          have := h2 a.2.1 (mem_starts.mpr ⟨a, ha, at', by omega, rfl⟩)
          omega
        have fat := v.df a ha t ht at' (by omega) (by omega)
        refine ⟨fun _ => ?_, fun _ => fat⟩
        by_cases k : t.2.2 ≤ o.2.1
        · have k3 := so k
          exact v.df a ha o ho (fun z => by rw [z] at ca; omega) (by omega) (by omega)
        · exact v.df a ha o ho (fun z => by rw [z] at m; omega) (by omega) (by omega)
      have N2 := (h _ v2).same
      rw [if_neg (by omega), if_pos fu, ← N.same] at N2
      unfold swp at N2
      rw [if_pos rfl] at N2
      exact ft N2.symm
    have ou := only o0 ho0 ot0 (.inl ⟨to0, by omega⟩)
    have us : u.2.1 = first := by rw [← ou]; exact os0
    have nd : rs.Nodup := (List.pairwise_map.mp (names_nd g)).imp fun {a b} h z => h (by rw [z])
    have eL := one_of ((nd.filter fun o => !decide (o = t)).filter (near t.2.2 first)) (mem_near.mpr ⟨hu, ut, .inl ⟨tu, by omega⟩⟩) fun x hx => by
      obtain ⟨a, b, c⟩ := mem_near.mp hx
      exact only x a b c
    dsimp only
    unfold nearOf
    rw [eL]
    rfl
theorem every_always {w : Int} {rs : List Ride} (g : GoodRides rs) (w1 : 1 ≤ w) (n : NoOver w rs) : everyP w rs = alwaysF w rs := by
  have ne := plans_some g w1 n
  have a1 : (everyP w rs).Pairwise fun a b => ltS a.1 b.1 = true := sortP_asc _ (every_nd g ne)
  have a2 : (alwaysF w rs).Pairwise fun a b => ltS a.1 b.1 = true := by
    unfold alwaysF
    rw [List.pairwise_filterMap]
    refine g.asc.imp fun {a b} l p hp q hq => ?_
    cases ea : follower w rs a with
    | none => rw [ea] at hp; cases hp
    | some x =>
      cases eb : follower w rs b with
      | none => rw [eb] at hq; cases hq
      | some y =>
        rw [ea] at hp
        rw [eb] at hq
        cases hp; cases hq
        exact l
  have nd : ∀ {l : List (Str × Str)}, (l.Pairwise fun a b => ltS a.1 b.1 = true) → l.Nodup := fun h => h.imp fun {a b} k z => by rw [z, ltS_irrefl] at k; cases k
  refine asc_uniq (·.1) ((List.perm_ext_iff_of_nodup (nd a1) (nd a2)).mpr fun p => ?_) a1 a2
  rw [every_val g ne p]
  unfold alwaysF
  rw [List.mem_filterMap]
  constructor
  · intro h
    obtain ⟨f, v⟩ := val_some g (by omega) n
    obtain ⟨t, u, rfl, N⟩ := h f v
    refine ⟨t, N.ht, ?_⟩
    rw [follow_nec g w1 n (t := t) (u := u) fun f' v' => ?_]
    · rfl
    · obtain ⟨t', u', e, N'⟩ := h f' v'
      have e1 : t.1 = t'.1 := (Prod.mk.inj e).1
      have e2 : u.1 = u'.1 := (Prod.mk.inj e).2
      rw [name_inj (names_nd g) N.ht N'.ht e1, name_inj (names_nd g) N.hu N'.hu e2]
      exact N'
  · rintro ⟨t, ht, e⟩ f v
    cases q : follower w rs t with
    | none => rw [q] at e; cases e
    | some x =>
      rw [q] at e
      cases e
      obtain ⟨u, rfl, N⟩ := follow_suff g ht q
      exact ⟨t, u, rfl, N f v⟩
end T
set_option Elab.async false
set_option linter.all false
set_option maxRecDepth 100000
set_option maxHeartbeats 1000000
namespace T
open PySem L2 PyProof.Rows
theorem nearOf_mem {rs : List Ride} {t : Ride} {first : Int} {y : Str} (hy : y ∈ nearOf rs t first) : ∃ u ∈ rs, y = u.1 := by
  obtain ⟨u, hu, rfl⟩ := List.mem_map.mp hy
  exact ⟨u, (List.mem_filter.mp (List.mem_filter.mp hu).1).1, rfl⟩
theorem follower_mem {w : Int} {rs : List Ride} {t : Ride} {x : Str} (e : follower w rs t = some x) : ∃ u ∈ rs, x = u.1 := by
  unfold follower at e
  split at e
  · cases e
  · split at e
    · cases e
    · split at e
      · rename_i q
        injection e with e
        subst e
        exact nearOf_mem (by rw [q]; exact List.mem_cons_self)
      · cases e
theorem always_good {w : Int} {rs : List Ride} (g : GoodRides rs) : ∀ p ∈ alwaysF w rs, GoodPair p := fun p hp => by
  unfold alwaysF at hp
  obtain ⟨t, ht, e⟩ := List.mem_filterMap.mp hp
  cases q : follower w rs t with
  | none => rw [q] at e; cases e
  | some x =>
    rw [q] at e
    injection e with e
    subst e
    obtain ⟨u, hu, rfl⟩ := follower_mem q
    exact ⟨(g.each t ht).nm, (g.each u hu).nm⟩
theorem always_len {w : Int} {rs : List Ride} (l : rs.length ≤ 24) : (alwaysF w rs).length ≤ 24 := Nat.le_trans (List.length_filterMap_le _ _) l
theorem NoOver.mono {w v : Int} {rs : List Ride} (n : NoOver w rs) (h : w ≤ v) : NoOver v rs := fun r hr => Int.le_trans (n r hr) h
theorem newLine_put {h : TH} {a p q : Addr} {o : O} {w : Int} {rs : List Ride} (n1 : p ≠ a) (n2 : q ≠ a) : newLine (put h a o) p q w rs = put (newLine h p q w rs) a o := by
  unfold newLine
  rw [put_comm (a := a) (b := q) n2.symm, put_comm (a := a) (b := p) n1.symm]
theorem newLine_ins {h : TH} {p q : Addr} {o : O} {w : Int} {rs : List Ride} (n : q ≠ p) : newLine (put h p o) p q w rs = newLine h p q w rs := by
  unfold newLine
  rw [put_comm (a := p) (b := q) n.symm, put_put]
theorem newLine_none {h : TH} {a p q : Addr} {w : Int} {rs : List Ride} (e : h a = none) (n1 : p ≠ a) (n2 : q ≠ a) : newLine h p q w rs a = none := by
  unfold newLine
  rw [put_ne n1.symm, put_ne n2.symm]; exact e
/-- a new line in the heap: the making, for its callers -/
theorem make_line {h : TH} {w : Int} {rs : List Ride} {P : Addr → TH → Prop} (w1 : 1 ≤ w) (w2 : w ≤ 20) (g : GoodRides rs) (k : ∀ p q, h p = none → h q = none → q ≠ p → P p (newLine h p q w rs)) :
    ∀ p, h p = none → c_Line_init [.ref p, .int w, .tup (rs.map tR)] (put h p (.ins "Line" [])) fun d h2 => d = .non ∧ P p h2 := fun p hp => by
  refine ⟨p, w, rs, rfl, put_same, w1, w2, g, fun q hq => ⟨rfl, ?_⟩⟩
  have hq' := put_none hq
  rw [newLine_ins hq'.2]
  exact k p q hp hq'.1 hq'.2
/-- lines that stand there -/
inductive LA (h : TH) : List Addr → List (Int × List Ride) → Prop
  | nil : LA h [] []
  | cons {a : Addr} {v : Int × List Ride} {ps : List Addr} {vs : List (Int × List Ride)} : LineAt h a v.1 v.2 → LA h ps vs → LA h (a :: ps) (v :: vs)
theorem LA.sub {h h' : TH} (s : Sub h h') : ∀ {ps : List Addr} {vs : List (Int × List Ride)}, LA h ps vs → LA h' ps vs
  | _, _, .nil => .nil
  | _, _, .cons a t => .cons (a.sub s) (t.sub s)
theorem LA.length {h : TH} : ∀ {ps : List Addr} {vs : List (Int × List Ride)}, LA h ps vs → ps.length = vs.length
  | _, _, .nil => rfl
  | _, _, .cons _ t => congrArg Nat.succ t.length
theorem LA.snoc {h : TH} {a : Addr} {v : Int × List Ride} (e : LineAt h a v.1 v.2) : ∀ {ps : List Addr} {vs : List (Int × List Ride)}, LA h ps vs → LA h (ps ++ [a]) (vs ++ [v])
  | _, _, .nil => .cons e .nil
  | _, _, .cons a t => .cons a (t.snoc e)
theorem LA.get {h : TH} : ∀ {ps : List Addr} {vs : List (Int × List Ride)} {i : Nat} {v : Int × List Ride}, LA h ps vs → vs[i]? = some v → ∃ a, ps[i]? = some a ∧ LineAt h a v.1 v.2
  | _, _, _, _, .nil, e => by simp at e
  | _, _, 0, _, .cons a t, e => by simp at e; subst e; exact ⟨_, rfl, a⟩
  | _, _, i + 1, _, .cons a t, e => by
    obtain ⟨b, e1, e2⟩ := t.get (i := i) (by simpa using e)
    exact ⟨b, by simpa using e1, e2⟩
theorem strs2_ne {a : Str} {p q : Addr} {h : TH} {P : TQ} (e1 : h p = some (.lst [.str a, .str a])) (e2 : h q = some (.lst [.str a, .str a])) (ok : PyData.strOk a = true) (k : P (.bl false) h) : neD (.ref p) (.ref q) h P := by
  show eqG (!·) (.ref p) (.ref q) h P
  have t0 : toPys [.str a, .str a] = some [.str a, .str a] := rfl
  simp only [eqG, pyOf, e1, e2, t0, Option.map_some]
  have sh : SeqAt.shaped (.list [.str a, .str a]) = true := by simp [SeqAt.shaped, PyData.canLay0, PyData.canLayAll0, PyData.depth, PyData.depthAll, ok]
  have e : PyData.eqv (.list [.str a, .str a]) (.list [.str a, .str a]) = true := by simp [PyData.eqv, PyData.eqvAll]
  exact ⟨sh, sh, by rw [e]; exact k⟩
def c_law_right : Con := fun ds h P => ∃ (p : Addr) (a b c : Int), ds = [.ref p] ∧ h p = some (pl a b c) ∧ InM a ∧ ∀ a b c, P (.bl true) (put h p (pl a b c))
theorem right_ok {p : Addr} {a b c : Int} {h : TH} {P : TQ} (e : h p = some (pl a b c)) (ia : InM a) (q : ∀ a b c, P (.bl true) (put h p (pl a b c))) : c_law_right [.ref p] h P := ⟨p, a, b, c, rfl, e, ia, q⟩
def rd_law_right : TrS := bSeq (bAsg (bCall c_law_small [] (bCons (bVar 0) (bNil))) (gT 2 (gsCons (gN 5) (gsCons (gN 6) (gsNil))))) (bSeq (bAsg (bBlt maxD (bCons (bVar 5) (bCons (bCall c_law_peak [] (bCons (bVar 6) (bNil))) (bNil)))) (gN 1)) (bSeq (bAsg (bIf (bB (bBin ltD (bBlt lenD (bCons (bVar 6) (bNil))) (bC (.int 6)))) (bLst (bCons (bVar 1) (bCons (bBin addD (bVar 1) (bC (.int 1))) (bNil)))) (bLst (bCons (bVar 1) (bNil)))) (gN 2)) (bSeq (bPar 7 8 (bCons (bLc (iL (bVar 2)) (gN 9) (bYes) (bMake "Line" c_Line_init [] (bCons (bVar 9) (bCons (bVar 6) (bNil)))) [9]) (bCons (bLc (iL (bVar 2)) (gN 9) (bYes) (bBlt reprD (bCons (bCall c_law_every [] (bCons (bVar 9) (bCons (bVar 6) (bNil)))) (bNil))) [9]) (bNil)))) (bSeq (bAsg (bCall c_law_backwards [] (bCons (bVar 6) (bNil))) (gN 3)) (bSeq (bExpr (bMt "list" appendD (bVar 7) (bCons (bMake "Line" c_Line_init [] (bCons (bVar 1) (bCons (bVar 3) (bNil)))) (bNil)))) (bSeq (bExpr (bMt "list" appendD (bVar 8) (bCons (bBlt reprD (bCons (bCall c_law_every [] (bCons (bVar 1) (bCons (bVar 3) (bNil)))) (bNil))) (bNil)))) (bSeq (bFor (iL (bBin mulD (bLstRg (rg1 (bBlt lenD (bCons (bVar 7) (bNil))))) (bC (.int 2)))) (gN 4) (bIfS (bB (bBin neD (bLst (bCons (bBlt reprD (bCons (bCall c_always_follows [] (bCons (bBin ixD (bVar 7) (bVar 4)) (bNil))) (bNil))) (bCons (bBlt reprD (bCons (bCallK c_always_follows [0] (bCons (bBin ixD (bVar 7) (bVar 4)) (bNil))) (bNil))) (bNil)))) (bLst (bCons (bBin ixD (bVar 8) (bVar 4)) (bCons (bBin ixD (bVar 8) (bVar 4)) (bNil)))))) (bRet (bC (.bl false))) (bNext))) (bRet (bC (.bl true))))))))))
theorem con_law_right (ds : List D) (h : TH) (Q : TQ) (c : c_law_right ds h Q) : rd_law_right { nx := fun _ h' => less Q .non h', rt := less Q } (startT 10 ds) h := by
  obtain ⟨p, a, b, c, rfl, e, ia, q⟩ := c
  simp only [rd_law_right, bSeq, bAsg, bCall, bCons, bNil, bVar, startT]
  simp
  refine small_ok e ia fun w rs a b c w1 w3 g hl ia => ?_
  simp [bRet, bRetN, bChain, bBin, bVar, bC, bNil, bCons, bTup, bLst, bDnew, bB, blQ, bUn, bAnd, bOr, bNot, bTru, truD, bAndV, bOrV, bNotV, bIf, iiD, addD, subD, fdivD, modD, powD, mulD, negD, ltD, leD, gtD, geD, eqG, eqD, neD, isN, isND, notND, inG, inD, notInD, inSeq, ixD, bNo, bPart, bSl, slD, bRev, bCall, bMeth, bMake, bFld, bProp, bBlt, lenD, absD, maxD, minD, divmodD, listD, tupleD, allD, anyD, isTyD, tyNm, tyIs, isOwnD, gN, gsNil, gsCons, gT, gS, setD, bNext, bSeq, bBreak, bCont, bNever, bExpr, bIfS, bAsg, bPar, bPar3, bSetF, bAug, iT, iL, iR1, iR2, iS, iEn, bFor, bYes, bLc, bMt, tyD, appendD, extendD, popD, joinD, bLstRg, rg1, rg2, bLstZip, bCallK, dictD, sortedD, keyOf, startT, toPy, toPys, pyOf]
  refine peak_ok (by omega) ?_
  have pk := peak_ge rs
  have pk2 := peak_le rs
  simp
  generalize hwd : (if w < peakR rs then peakR rs else w) = wide
  have wd1 : 1 ≤ wide := by rw [← hwd]; split <;> omega
  have wd2 : wide ≤ 6 := by rw [← hwd]; split <;> omega
  have wd3 : NoOver wide rs := pk.mono (by rw [← hwd]; split <;> omega)
  split
  case' isTrue l6 =>
    have wd4 : wide + 1 ≤ 6 := by rw [← hwd]; split <;> omega
    intro p1 hp1
    have ewl : [D.int wide, D.int (wide + 1)] = [wide, wide + 1].map D.int := rfl
    have hws : ∀ v ∈ [wide, wide + 1], 1 ≤ v ∧ v ≤ 6 ∧ NoOver v rs := fun v hv => by
      rcases List.mem_cons.mp hv with rfl | hv
      · exact ⟨wd1, wd2, wd3⟩
      · rw [List.mem_singleton.mp hv]; exact ⟨by omega, wd4, wd3.mono (by omega)⟩
    rw [ewl]
    have hwl : ([wide, wide + 1] : List Int).length ≤ 2 := Nat.le_refl _
    generalize ([wide, wide + 1] : List Int) = ws at hws hwl ⊢
    clear ewl wd4 l6
  case' isFalse l6 =>
    intro p1 hp1
    have ewl : [D.int wide] = [wide].map D.int := rfl
    have hws : ∀ v ∈ [wide], 1 ≤ v ∧ v ≤ 6 ∧ NoOver v rs := fun v hv => by
      rw [List.mem_singleton.mp hv]; exact ⟨wd1, wd2, wd3⟩
    rw [ewl]
    have hwl : ([wide] : List Int).length ≤ 2 := Nat.le_succ _
    generalize ([wide] : List Int) = ws at hws hwl ⊢
    clear ewl l6
  all_goals
    have e1 : put (put h p (pl a b c)) p1 (.lst (ws.map D.int)) p1 = some (.lst (ws.map D.int)) := put_same
    have s01 : Sub (put h p (pl a b c)) (put (put h p (pl a b c)) p1 (.lst (ws.map D.int))) := Sub.put hp1
    generalize put (put h p (pl a b c)) p1 (.lst (ws.map D.int)) = h1 at e1 s01 ⊢
    intro p2 hp2
    have n12 : p1 ≠ p2 := fun z => by rw [z, hp2] at e1; cases e1
    refine lc_state _ (fun i acc hh => ∃ (bs : List Addr) (hB : TH), acc = bs.map D.ref ∧ LA hB bs ((ws.take i).map fun v => (v, rs)) ∧ hB p2 = none ∧ hB p1 = some (.lst (ws.map D.int)) ∧ Sub h1 hB ∧ hh = put hB p2 (.lst acc)) (by simp; omega) ⟨[], h1, rfl, .nil, hp2, e1, Sub.refl _, rfl⟩ (fun i acc hh _ j => ?_) (fun i x acc hh Kn ei j k1 _ => ?_) (fun acc hh j => ?_)
    · obtain ⟨bs, hB, rfl, la, nB, eB, s1B, rfl⟩ := j
      rw [put_ne n12]; exact eB
    · obtain ⟨bs, hB, rfl, la, nB, eB, s1B, rfl⟩ := j
      rw [List.getElem?_map] at ei
      cases ep : ws[i]? with
      | none => rw [ep] at ei; cases ei
      | some v =>
        rw [ep] at ei; cases ei
        obtain ⟨v1, v2, v3⟩ := hws v (List.mem_of_getElem? ep)
        simp [lcItem, bRet, bRetN, bChain, bBin, bVar, bC, bNil, bCons, bTup, bLst, bDnew, bB, blQ, bUn, bAnd, bOr, bNot, bTru, truD, bAndV, bOrV, bNotV, bIf, iiD, addD, subD, fdivD, modD, powD, mulD, negD, ltD, leD, gtD, geD, eqG, eqD, neD, isN, isND, notND, inG, inD, notInD, inSeq, ixD, bNo, bPart, bSl, slD, bRev, bCall, bMeth, bMake, bFld, bProp, bBlt, lenD, absD, maxD, minD, divmodD, listD, tupleD, allD, anyD, isTyD, tyNm, tyIs, isOwnD, gN, gsNil, gsCons, gT, gS, setD, bNext, bSeq, bBreak, bCont, bNever, bExpr, bIfS, bAsg, bPar, bPar3, bSetF, bAug, iT, iL, iR1, iR2, iS, iEn, bFor, bYes, bLc, bMt, tyD, appendD, extendD, popD, joinD, bLstRg, rg1, rg2, bLstZip, bCallK, dictD, sortedD, keyOf, startT, toPy, toPys, pyOf, wipeT]
        refine make_line v1 (by omega) g fun x y hx hy nyx => ?_
        have hx' := put_none hx
        have hy' := put_none hy
        rw [newLine_put hx'.2 hy'.2]
        refine k1 _ _ _ (Sub.refl _) put_same ⟨bs ++ [x], newLine hB x y v rs, by simp, ?_, newLine_none nB hx'.2 hy'.2, (newLine_sub hx'.1 hy'.1 nyx) _ _ eB, s1B.trans (newLine_sub hx'.1 hy'.1 nyx), by rw [put_put]⟩
        rw [List.take_add_one, ep, List.map_append]
        exact LA.snoc (v := (v, rs)) (newLine_at hx'.1 hy'.1 nyx) (la.sub (newLine_sub hx'.1 hy'.1 nyx))
    obtain ⟨bs, hB, rfl, la, nB, eB, s1B, rfl⟩ := j
    have et : ws.take (ws.map D.int).length = ws := List.take_of_length_le (by simp)
    rw [et] at la
    simp only [put_ne n12, eB]
    intro p3 hp3
    have hp3' := put_none hp3
    have n13 : p1 ≠ p3 := fun z => by rw [z, hp3'.1] at eB; cases eB
    refine lc_state _ (fun i acc hh => acc = (ws.map fun v => D.str (textP (alwaysF v rs))).take i ∧ hh = put (put hB p2 (.lst (bs.map D.ref))) p3 (.lst acc)) (by simp; omega) ⟨rfl, rfl⟩ (fun i acc hh _ j => ?_) (fun i x acc hh Kn ei j k1 _ => ?_) (fun acc hh j => ?_)
    · rw [j.2, put_ne n13, put_ne n12]; exact eB
    · obtain ⟨rfl, rfl⟩ := j
      rw [List.getElem?_map] at ei
      cases ep : ws[i]? with
      | none => rw [ep] at ei; cases ei
      | some v =>
        rw [ep] at ei; cases ei
        obtain ⟨v1, v2, v3⟩ := hws v (List.mem_of_getElem? ep)
        simp [lcItem, bRet, bRetN, bChain, bBin, bVar, bC, bNil, bCons, bTup, bLst, bDnew, bB, blQ, bUn, bAnd, bOr, bNot, bTru, truD, bAndV, bOrV, bNotV, bIf, iiD, addD, subD, fdivD, modD, powD, mulD, negD, ltD, leD, gtD, geD, eqG, eqD, neD, isN, isND, notND, inG, inD, notInD, inSeq, ixD, bNo, bPart, bSl, slD, bRev, bCall, bMeth, bMake, bFld, bProp, bBlt, lenD, absD, maxD, minD, divmodD, listD, tupleD, allD, anyD, isTyD, tyNm, tyIs, isOwnD, gN, gsNil, gsCons, gT, gS, setD, bNext, bSeq, bBreak, bCont, bNever, bExpr, bIfS, bAsg, bPar, bPar3, bSetF, bAug, iT, iL, iR1, iR2, iS, iEn, bFor, bYes, bLc, bMt, tyD, appendD, extendD, popD, joinD, bLstRg, rg1, rg2, bLstZip, bCallK, dictD, sortedD, keyOf, startT, toPy, toPys, pyOf, wipeT]
        refine every_ok g hl (by omega) v2 (plans_some g v1 v3) ?_
        rw [every_always g v1 v3]
        refine repr_pairs (always_good g) (always_len (by omega)) ?_
        refine k1 _ _ _ (Sub.refl _) put_same ⟨?_, by rw [put_put]⟩
        rw [List.take_add_one, List.getElem?_map, ep]; rfl
    obtain ⟨rfl, rfl⟩ := j
    have et2 : (ws.map fun v => D.str (textP (alwaysF v rs))).take (ws.map D.int).length = ws.map fun v => D.str (textP (alwaysF v rs)) := List.take_of_length_le (by simp)
    rw [et2]
    refine backwards_ok (by omega) ?_
    have gb := back_good g
    have nb := back_noOver (by omega) wd3
    have bl : (backR rs).length = rs.length := by unfold backR; rw [List.length_map]
    have n23 : p2 ≠ p3 := fun z => hp3'.2 z.symm
    simp [put_ne n23]
    refine make_line wd1 (by omega) gb fun x y hx hy nyx => ?_
    have hx' := put_none hx
    have hy' := put_none hy
    have hx2 := put_none hx'.1
    have hy2 := put_none hy'.1
    rw [newLine_put hx'.2 hy'.2, newLine_put hx2.2 hy2.2]
    simp [put_ne n23]
    have bsl := la.length
    refine ⟨by simp at bsl; omega, ?_⟩
    rw [put_comm (a := p3) (b := p2) n23.symm, put_put]
    simp [put_ne n23]
    refine every_ok gb (by omega) (by omega) wd2 (plans_some gb wd1 nb) ?_
    rw [every_always gb wd1 nb]
    refine repr_pairs (always_good gb) (always_len (by omega)) ?_
    simp [put_put, put_ne n23]
    have sB : Sub hB (newLine hB x y wide (backR rs)) := newLine_sub hx2.1 hy2.1 nyx
    have laF : LA (newLine hB x y wide (backR rs)) (bs ++ [x]) ((ws.map fun v => (v, rs)) ++ [(wide, backR rs)]) := LA.snoc (v := (wide, backR rs)) (newLine_at hx2.1 hy2.1 nyx) (la.sub sB)
    have nF2 : newLine hB x y wide (backR rs) p2 = none := newLine_none nB hx2.2 hy2.2
    have nF3 : newLine hB x y wide (backR rs) p3 = none := newLine_none hp3'.1 hx'.2 hy'.2
    have s0F := (s01.trans s1B).trans sB
    generalize newLine hB x y wide (backR rs) = hF at laF nF2 nF3 s0F ⊢
    have specs : ∀ v ∈ (ws.map fun v => (v, rs)) ++ [(wide, backR rs)], GoodRides v.2 ∧ NoOver v.1 v.2 := fun v hv => by
      rcases List.mem_append.mp hv with hv | hv
      · obtain ⟨u, hu, rfl⟩ := List.mem_map.mp hv
        exact ⟨g, (hws u hu).2.2⟩
      · rw [List.mem_singleton.mp hv]; exact ⟨gb, nb⟩
    have ed : (ws.map fun v => D.str (textP (alwaysF v rs))) ++ [D.str (textP (alwaysF wide (backR rs)))] = (((ws.map fun v => (v, rs)) ++ [(wide, backR rs)]).map fun v => D.str (textP (alwaysF v.1 v.2))) := by simp
    rw [ed]
    have eb : (bs.map D.ref ++ [D.ref x]) = (bs ++ [x]).map D.ref := by simp
    rw [eb]
    have slen : ((ws.map fun v => (v, rs)) ++ [(wide, backR rs)]).length ≤ 3 := by simp; omega
    have ew : ((bs ++ [x]).length) = ((ws.map fun v => (v, rs)) ++ [(wide, backR rs)]).length := laF.length
    have hbl : bs.length + 1 = ((ws.map fun v => (v, rs)) ++ [(wide, backR rs)]).length := by simp at bsl ⊢; exact bsl
    rw [hbl]
    have hbi : ((bs.length : Int) + 1) = ((((ws.map fun v => (v, rs)) ++ [(wide, backR rs)]).length : Nat) : Int) := by rw [← hbl]; rfl
    rw [hbi]
    generalize (bs ++ [x]) = B at laF ew ⊢
    generalize ((ws.map fun v => (v, rs)) ++ [(wide, backR rs)]) = S at laF specs slen ew ⊢
    refine ⟨by omega, RgOk.of_le (by omega) (by omega) (by omega) (by omega), fun l1 hl1 => ⟨by simp [upTo]; omega, fun l2 hl2 => ?_⟩⟩
    have hl1' := put_none hl1
    have hl1'' := put_none hl1'.1
    have hl2' := put_none hl2
    have hl2'' := put_none hl2'.1
    have hl23 := put_none hl2''.1
    have eP2 : put (put hF p2 (.lst (B.map D.ref))) p3 (.lst (S.map fun v => D.str (textP (alwaysF v.1 v.2)))) p2 = some (.lst (B.map D.ref)) := by rw [put_ne n23, put_same]
    have eP3 : put (put hF p2 (.lst (B.map D.ref))) p3 (.lst (S.map fun v => D.str (textP (alwaysF v.1 v.2)))) p3 = some (.lst (S.map fun v => D.str (textP (alwaysF v.1 v.2)))) := put_same
    have sFP := (Sub.put (o := .lst (B.map D.ref)) nF2).trans (Sub.put (o := .lst (S.map fun v => D.str (textP (alwaysF v.1 v.2)))) (show put hF p2 (.lst (B.map D.ref)) p3 = none by rw [put_ne n23.symm]; exact nF3))
    have laP := laF.sub sFP
    have s0P := s0F.trans sFP
    generalize put (put hF p2 (.lst (B.map D.ref))) p3 (.lst (S.map fun v => D.str (textP (alwaysF v.1 v.2)))) = hP at hl1 hl2 eP2 eP3 laP s0P ⊢
    have sL := (Sub.put (o := .lst (upTo 0 S.length)) hl1).trans (Sub.put (o := .lst (upTo 0 S.length ++ upTo 0 S.length)) hl2)
    have eP2 := sL _ _ eP2
    have eP3 := sL _ _ eP3
    have laP := laP.sub sL
    have s0N := s0P.trans sL
    have eN : put (put hP l1 (.lst (upTo 0 S.length))) l2 (.lst (upTo 0 S.length ++ upTo 0 S.length)) l2 = some (.lst (upTo 0 S.length ++ upTo 0 S.length)) := put_same
    generalize put (put hP l1 (.lst (upTo 0 S.length))) l2 (.lst (upTo 0 S.length ++ upTo 0 S.length)) = hN at eP2 eP3 laP eN s0N ⊢
    refine loop_inv _ (fun i ds' h' => ∃ o4, ds' = [some (.ref p), some (.int wide), some (.ref p1), some (.tup ((backR rs).map tR)), o4, some (.int w), some (.tup (rs.map tR)), some (.ref p2), some (.ref p3), none] ∧ Sub hN h') ⟨none, rfl, Sub.refl _⟩ (fun i ds' h' _ j => ?_) (fun i x ds' h' Kn ei j kn => ?_) (fun ds' h' j => ?_)
    · obtain ⟨_, _, s⟩ := j; exact s _ _ eN
    · obtain ⟨o4, rfl, s⟩ := j
      have hx : ∃ k : Nat, k < S.length ∧ x = .int (k : Int) := by
        have hm := List.mem_of_getElem? ei
        rw [List.mem_append, or_self] at hm
        obtain ⟨k, hk, rfl⟩ := List.mem_map.mp hm
        exact ⟨k, List.mem_range.mp hk, by simp⟩
      obtain ⟨k, hk, rfl⟩ := hx
      obtain ⟨v, ev⟩ : ∃ v, S[k]? = some v := ⟨S[k], by simp [hk]⟩
      obtain ⟨y, ey, ly⟩ := laP.get ev
      obtain ⟨gv, nv⟩ := specs v (List.mem_of_getElem? ev)
      have eB : atI (B.map D.ref) (k : Int) = some (.ref y) := by rw [atI_nat _ _ (by simp; omega), List.getElem?_map, ey]; rfl
      have eS : atI (S.map fun v => D.str (textP (alwaysF v.1 v.2))) (k : Int) = some (.str (textP (alwaysF v.1 v.2))) := by rw [atI_nat _ _ (by simp; omega), List.getElem?_map, ev]; rfl
      have eP2 := s _ _ eP2
      have eP3 := s _ _ eP3
      have gp := always_good (w := v.1) gv
      have lp : (alwaysF v.1 v.2).length ≤ 24 := always_len gv.len
      simp only [bIfS, bB, bBin, bLst, bCons, bNil, bBlt, bCall, bCallK, bVar, gN]
      simp [ixD, eP2, eB]
      refine always_follows_ok (ly.sub s) gv nv ?_
      refine repr_pairs gp lp ?_
      simp [ixD, eP2, eB, pick]
      refine always_follows_ok (ly.sub s) gv nv ?_
      refine repr_pairs gp lp ?_
      intro r1 hr1
      rw [put_off eP3 hr1]
      dsimp only
      rw [eS]
      dsimp only
      intro r2 hr2
      refine strs2_ne (put_off put_same hr2) put_same (textP_ok gp) ?_
      simp [blQ, bNext]
      exact kn _ _ ⟨_, rfl, s.trans ((Sub.put hr1).trans (Sub.put hr2))⟩
    · obtain ⟨o4, rfl, s⟩ := j
      simp [bRet, bC]
      exact less_sub (s0N.trans s) (q a b c)
end T
set_option Elab.async false
set_option linter.all false
set_option maxRecDepth 100000
set_option maxHeartbeats 1000000
namespace T
open PySem L2 PyProof.Rows
/-! ### the boards by hand, the law -/
def cases7 : List (Int × List Ride × List (Str × Str)) :=
  [(2, [("ann", 0, 3), ("bob", 1, 9), ("carl", 5, 7), ("dora", 9, 10)], [("ann", "carl")]),
   (3, [("ann", 0, 3), ("bob", 1, 9), ("carl", 5, 7), ("dora", 9, 10)], []),
   (1, [("ann", 0, 3), ("bob", 3, 5), ("carl", 5, 9)], [("ann", "bob"), ("bob", "carl")]),
   (2, [("a", 0, 3), ("b", 1, 3), ("c", 3, 5)], []),
   (2, [("a", 0, 3), ("b", 0, 4), ("c", 4, 5)], []),
   (2, [("a", 0, 3), ("b", 0, 5), ("c", 3, 4)], [("a", "c")]),
   (2, [("a", 0, 3), ("b", 0, 9), ("c", 6, 8), ("d", 8, 9)], [("a", "c"), ("c", "d")])]
abbrev tC (v : Int × List Ride × List (Str × Str)) : D := .tup [.int v.1, .tup (v.2.1.map tR), .tup (v.2.2.map tP)]
theorem hand_each : ∀ v ∈ cases7, ∀ r ∈ v.2.1, (0 < r.1.length ∧ r.1.length < 9 ∧ ∀ c ∈ r.1.cps.toList, c ∈ letters.cps.toList) ∧ 0 ≤ r.2.1 ∧ r.2.1 < r.2.2 := by decide +kernel
theorem hand_asc : ∀ v ∈ cases7, v.2.1.Pairwise fun a b => ltS a.1 b.1 = true := by decide +kernel
theorem hand_len : ∀ v ∈ cases7, v.2.1.length ≤ 24 ∧ 1 ≤ v.1 ∧ v.1 ≤ 20 := by decide +kernel
theorem hand_over : ∀ v ∈ cases7, ∀ r ∈ v.2.1, (loadR v.2.1 r.2.1 : Int) ≤ v.1 := by decide +kernel
theorem hand_due : ∀ v ∈ cases7, alwaysF v.1 v.2.1 = v.2.2 := by decide +kernel
theorem hand_good {v : Int × List Ride × List (Str × Str)} (h : v ∈ cases7) : GoodRides v.2.1 :=
  ⟨fun r hr => let e := hand_each v h r hr; ⟨e.1, e.2.1, e.2.2⟩, hand_asc v h, (hand_len v h).1⟩
def c_law_by_hand : Con := fun ds h P => ds = [] ∧ ∀ h', P (.bl true) h'
def rd_law_by_hand : TrS := bSeq (bAsg (bTup (bCons (bTup (bCons (bC (.str "ann")) (bCons (bC (.int 0)) (bCons (bC (.int 3)) (bNil))))) (bCons (bTup (bCons (bC (.str "bob")) (bCons (bC (.int 1)) (bCons (bC (.int 9)) (bNil))))) (bCons (bTup (bCons (bC (.str "carl")) (bCons (bC (.int 5)) (bCons (bC (.int 7)) (bNil))))) (bCons (bTup (bCons (bC (.str "dora")) (bCons (bC (.int 9)) (bCons (bC (.int 10)) (bNil))))) (bNil)))))) (gN 0)) (bSeq (bAsg (bTup (bCons (bTup (bCons (bC (.str "ann")) (bCons (bC (.int 0)) (bCons (bC (.int 3)) (bNil))))) (bCons (bTup (bCons (bC (.str "bob")) (bCons (bC (.int 3)) (bCons (bC (.int 5)) (bNil))))) (bCons (bTup (bCons (bC (.str "carl")) (bCons (bC (.int 5)) (bCons (bC (.int 9)) (bNil))))) (bNil))))) (gN 1)) (bSeq (bAsg (bLst (bCons (bTup (bCons (bC (.int 2)) (bCons (bVar 0) (bCons (bTup (bCons (bTup (bCons (bC (.str "ann")) (bCons (bC (.str "carl")) (bNil)))) (bNil))) (bNil))))) (bCons (bTup (bCons (bC (.int 3)) (bCons (bVar 0) (bCons (bTup (bNil)) (bNil))))) (bCons (bTup (bCons (bC (.int 1)) (bCons (bVar 1) (bCons (bTup (bCons (bTup (bCons (bC (.str "ann")) (bCons (bC (.str "bob")) (bNil)))) (bCons (bTup (bCons (bC (.str "bob")) (bCons (bC (.str "carl")) (bNil)))) (bNil)))) (bNil))))) (bNil))))) (gN 2)) (bSeq (bExpr (bMt "list" appendD (bVar 2) (bCons (bTup (bCons (bC (.int 2)) (bCons (bTup (bCons (bTup (bCons (bC (.str "a")) (bCons (bC (.int 0)) (bCons (bC (.int 3)) (bNil))))) (bCons (bTup (bCons (bC (.str "b")) (bCons (bC (.int 1)) (bCons (bC (.int 3)) (bNil))))) (bCons (bTup (bCons (bC (.str "c")) (bCons (bC (.int 3)) (bCons (bC (.int 5)) (bNil))))) (bNil))))) (bCons (bTup (bNil)) (bNil))))) (bNil)))) (bSeq (bExpr (bMt "list" appendD (bVar 2) (bCons (bTup (bCons (bC (.int 2)) (bCons (bTup (bCons (bTup (bCons (bC (.str "a")) (bCons (bC (.int 0)) (bCons (bC (.int 3)) (bNil))))) (bCons (bTup (bCons (bC (.str "b")) (bCons (bC (.int 0)) (bCons (bC (.int 4)) (bNil))))) (bCons (bTup (bCons (bC (.str "c")) (bCons (bC (.int 4)) (bCons (bC (.int 5)) (bNil))))) (bNil))))) (bCons (bTup (bNil)) (bNil))))) (bNil)))) (bSeq (bExpr (bMt "list" appendD (bVar 2) (bCons (bTup (bCons (bC (.int 2)) (bCons (bTup (bCons (bTup (bCons (bC (.str "a")) (bCons (bC (.int 0)) (bCons (bC (.int 3)) (bNil))))) (bCons (bTup (bCons (bC (.str "b")) (bCons (bC (.int 0)) (bCons (bC (.int 5)) (bNil))))) (bCons (bTup (bCons (bC (.str "c")) (bCons (bC (.int 3)) (bCons (bC (.int 4)) (bNil))))) (bNil))))) (bCons (bTup (bCons (bTup (bCons (bC (.str "a")) (bCons (bC (.str "c")) (bNil)))) (bNil))) (bNil))))) (bNil)))) (bSeq (bExpr (bMt "list" appendD (bVar 2) (bCons (bTup (bCons (bC (.int 2)) (bCons (bTup (bCons (bTup (bCons (bC (.str "a")) (bCons (bC (.int 0)) (bCons (bC (.int 3)) (bNil))))) (bCons (bTup (bCons (bC (.str "b")) (bCons (bC (.int 0)) (bCons (bC (.int 9)) (bNil))))) (bCons (bTup (bCons (bC (.str "c")) (bCons (bC (.int 6)) (bCons (bC (.int 8)) (bNil))))) (bCons (bTup (bCons (bC (.str "d")) (bCons (bC (.int 8)) (bCons (bC (.int 9)) (bNil))))) (bNil)))))) (bCons (bTup (bCons (bTup (bCons (bC (.str "a")) (bCons (bC (.str "c")) (bNil)))) (bCons (bTup (bCons (bC (.str "c")) (bCons (bC (.str "d")) (bNil)))) (bNil)))) (bNil))))) (bNil)))) (bRet (bBin eqD (bLc (iL (bVar 2)) (gT 3 (gsCons (gN 4) (gsCons (gN 5) (gsCons (gN 6) (gsNil))))) (bYes) (bCall c_always_follows [] (bCons (bMake "Line" c_Line_init [] (bCons (bVar 4) (bCons (bVar 5) (bNil)))) (bNil))) [4, 5, 6]) (bLc (iL (bVar 2)) (gN 3) (bYes) (bBin ixD (bVar 3) (bC (.int 2))) [3])))))))))
theorem con_law_by_hand (ds : List D) (h : TH) (Q : TQ) (c : c_law_by_hand ds h Q) : rd_law_by_hand { nx := fun _ h' => less Q .non h', rt := less Q } (startT 7 ds) h := by
  obtain ⟨rfl, q⟩ := c
  simp [rd_law_by_hand, bRet, bRetN, bChain, bBin, bVar, bC, bNil, bCons, bTup, bLst, bDnew, bB, blQ, bUn, bAnd, bOr, bNot, bTru, truD, bAndV, bOrV, bNotV, bIf, iiD, addD, subD, fdivD, modD, powD, mulD, negD, ltD, leD, gtD, geD, eqG, eqD, neD, isN, isND, notND, inG, inD, notInD, inSeq, ixD, bNo, bPart, bSl, slD, bRev, bCall, bMeth, bMake, bFld, bProp, bBlt, lenD, absD, maxD, minD, divmodD, listD, tupleD, allD, anyD, isTyD, tyNm, tyIs, isOwnD, gN, gsNil, gsCons, gT, gS, setD, bNext, bSeq, bBreak, bCont, bNever, bExpr, bIfS, bAsg, bPar, bPar3, bSetF, bAug, iT, iL, iR1, iR2, iS, iEn, bFor, bYes, bLc, bMt, tyD, appendD, extendD, popD, joinD, bLstRg, rg1, rg2, bLstZip, bCallK, dictD, sortedD, keyOf, startT, toPy, toPys, pyOf, put_put]
  intro p hp
  generalize hx : ([_, _, _, _, _, _, _] : List D) = items
  have hx : items = cases7.map tC := hx.symm.trans rfl
  subst hx
  clear hx
  intro p1 hp1
  have e0 : put h p (.lst (cases7.map tC)) p = some (.lst (cases7.map tC)) := put_same
  generalize put h p (.lst (cases7.map tC)) = h0 at hp1 e0 ⊢
  have np : p ≠ p1 := fun z => by rw [← z, e0] at hp1; cases hp1
  have hcl : cases7.length = 7 := rfl
  have hall : ∀ v ∈ cases7, GoodRides v.2.1 ∧ NoOver v.1 v.2.1 ∧ alwaysF v.1 v.2.1 = v.2.2 ∧ 1 ≤ v.1 ∧ v.1 ≤ 20 := fun v hv => ⟨hand_good hv, hand_over v hv, hand_due v hv, (hand_len v hv).2⟩
  have hsh : ∃ p, toPys (cases7.map fun v => D.tup (v.2.2.map tP)) = some p ∧ SeqAt.shaped (.list p) = true ∧ PyData.eqv (.list p) (.list p) = true := ⟨_, rfl, by decide +kernel, by decide +kernel⟩
  generalize cases7 = cs at e0 hcl hall hsh ⊢
  refine lc_state _ (fun i acc hh => acc = ((cs.take i).map fun v => D.tup (v.2.2.map tP)) ∧ ∃ hB : TH, hh = put hB p1 (.lst acc) ∧ hB p1 = none ∧ hB p = some (.lst (cs.map tC))) (by simp; omega) ⟨rfl, h0, rfl, hp1, e0⟩ (fun i acc hh _ j => ?_) (fun i x acc hh Kn ei j k1 _ => ?_) (fun acc hh j => ?_)
  · obtain ⟨rfl, hB, rfl, nB, eB⟩ := j
    rw [put_ne np]; exact eB
  · obtain ⟨rfl, hB, rfl, nB, eB⟩ := j
    rw [List.getElem?_map] at ei
    cases ep : cs[i]? with
    | none => rw [ep] at ei; cases ei
    | some v =>
      rw [ep] at ei; cases ei
      obtain ⟨g, n, du, v1, v2⟩ := hall v (List.mem_of_getElem? ep)
      simp [lcItem, bRet, bRetN, bChain, bBin, bVar, bC, bNil, bCons, bTup, bLst, bDnew, bB, blQ, bUn, bAnd, bOr, bNot, bTru, truD, bAndV, bOrV, bNotV, bIf, iiD, addD, subD, fdivD, modD, powD, mulD, negD, ltD, leD, gtD, geD, eqG, eqD, neD, isN, isND, notND, inG, inD, notInD, inSeq, ixD, bNo, bPart, bSl, slD, bRev, bCall, bMeth, bMake, bFld, bProp, bBlt, lenD, absD, maxD, minD, divmodD, listD, tupleD, allD, anyD, isTyD, tyNm, tyIs, isOwnD, gN, gsNil, gsCons, gT, gS, setD, bNext, bSeq, bBreak, bCont, bNever, bExpr, bIfS, bAsg, bPar, bPar3, bSetF, bAug, iT, iL, iR1, iR2, iS, iEn, bFor, bYes, bLc, bMt, tyD, appendD, extendD, popD, joinD, bLstRg, rg1, rg2, bLstZip, bCallK, dictD, sortedD, keyOf, startT, toPy, toPys, pyOf, wipeT]
      refine make_line v1 v2 g fun x y hx hy nyx => ?_
      have hx' := put_none hx
      have hy' := put_none hy
      rw [newLine_put hx'.2 hy'.2]
      have sF := newLine_sub (w := v.1) (rs := v.2.1) hx'.1 hy'.1 nyx
      have nF : newLine hB x y v.1 v.2.1 p1 = none := newLine_none nB hx'.2 hy'.2
      refine always_follows_ok ((newLine_at hx'.1 hy'.1 nyx).sub (Sub.put nF)) g n ?_
      rw [du]
      refine k1 _ _ _ (Sub.refl _) (by rw [put_same, List.map_take]) ⟨?_, newLine hB x y v.1 v.2.1, by rw [put_put], nF, sF _ _ eB⟩
      rw [List.take_add_one, ep, List.map_append]; rfl
  obtain ⟨rfl, hB, rfl, nB, eB⟩ := j
  have et : cs.take (cs.map tC).length = cs := List.take_of_length_le (by simp)
  rw [et]
  simp only [put_ne np, eB]
  intro p2 hp2
  refine lc_map _ tC (fun v => D.tup (v.2.2.map tP)) cs hp2 (by omega) (fun _ => put_off (by rw [put_ne np]; exact eB) hp2) (fun v hv acc Kn kn => ?_) ?_
  · simp [lcItem, bRet, bRetN, bChain, bBin, bVar, bC, bNil, bCons, bTup, bLst, bDnew, bB, blQ, bUn, bAnd, bOr, bNot, bTru, truD, bAndV, bOrV, bNotV, bIf, iiD, addD, subD, fdivD, modD, powD, mulD, negD, ltD, leD, gtD, geD, eqG, eqD, neD, isN, isND, notND, inG, inD, notInD, inSeq, ixD, bNo, bPart, bSl, slD, bRev, bCall, bMeth, bMake, bFld, bProp, bBlt, lenD, absD, maxD, minD, divmodD, listD, tupleD, allD, anyD, isTyD, tyNm, tyIs, isOwnD, gN, gsNil, gsCons, gT, gS, setD, bNext, bSeq, bBreak, bCont, bNever, bExpr, bIfS, bAsg, bPar, bPar3, bSetF, bAug, iT, iL, iR1, iR2, iS, iEn, bFor, bYes, bLc, bMt, tyD, appendD, extendD, popD, joinD, bLstRg, rg1, rg2, bLstZip, bCallK, dictD, sortedD, keyOf, startT, toPy, toPys, pyOf, wipeT]
    exact kn
  · obtain ⟨pd, e1, e2, e3⟩ := hsh
    rw [put_off put_same hp2, put_same]
    simp only [e1, Option.map_some]
    exact ⟨e2, e2, by rw [e3]; exact less_of (q _)⟩
theorem bools_rep : ∀ n : Nat, boolsOf (List.replicate n (D.bl true)) = some (List.replicate n true)
  | 0 => rfl
  | n + 1 => by rw [List.replicate_succ, List.replicate_succ]; simp [boolsOf, bools_rep n]
def c_law : Con := fun ds h P => ∃ ns : List Int, ds = [.scr ns] ∧ ∀ h', P (.bl true) h'
def rd_law : TrS := bSeq (bIfS (bNot (bTru (bCall c_law_by_hand [] bNil))) (bRet (bC (.bl false))) (bNext)) (bRet (bBlt allD (bCons (bLc (iR1 (bCons (bBlt maxD (bCons (bC (.int 2)) (bCons (bBlt minD (bCons (bBlt lenD (bCons (bVar 0) (bNil))) (bCons (bC (.int 5)) (bNil)))) (bNil)))) (bNil))) (gN 1) (bYes) (bCall c_law_right [] (bCons (bCall c_law_pool [] (bCons (bCall c_law_cell [] (bCons (bVar 0) (bCons (bVar 1) (bNil)))) (bNil))) (bNil))) [1]) (bNil))))
theorem con_law (ds : List D) (h : TH) (Q : TQ) (c : c_law ds h Q) : rd_law { nx := fun _ h' => less Q .non h', rt := less Q } (startT 2 ds) h := by
  obtain ⟨ns, rfl, q⟩ := c
  simp [rd_law, bRet, bRetN, bChain, bBin, bVar, bC, bNil, bCons, bTup, bLst, bDnew, bB, blQ, bUn, bAnd, bOr, bNot, bTru, truD, bAndV, bOrV, bNotV, bIf, iiD, addD, subD, fdivD, modD, powD, mulD, negD, ltD, leD, gtD, geD, eqG, eqD, neD, isN, isND, notND, inG, inD, notInD, inSeq, ixD, bNo, bPart, bSl, slD, bRev, bCall, bMeth, bMake, bFld, bProp, bBlt, lenD, absD, maxD, minD, divmodD, listD, tupleD, allD, anyD, isTyD, tyNm, tyIs, isOwnD, gN, gsNil, gsCons, gT, gS, setD, bNext, bSeq, bBreak, bCont, bNever, bExpr, bIfS, bAsg, bPar, bPar3, bSetF, bAug, iT, iL, iR1, iR2, iS, iEn, bFor, bYes, bLc, bMt, tyD, appendD, extendD, popD, joinD, bLstRg, rg1, rg2, bLstZip, bCallK, dictD, sortedD, keyOf, startT, toPy, toPys, pyOf]
  refine ⟨rfl, fun h1 => ?_⟩
  dsimp only
  simp only [if_true]
  generalize hk : (if (2:Int) < (if (5:Int) < (ns.length:Int) then 5 else (ns.length:Int)) then (if (5:Int) < (ns.length:Int) then 5 else (ns.length:Int)) else 2) = n
  have hn : 2 ≤ n ∧ n ≤ 5 := by rw [← hk]; split <;> split <;> omega
  clear hk
  refine ⟨by omega, fun p hp => ?_⟩
  refine lc_state _ (fun i acc hh => acc = List.replicate i (.bl true) ∧ ∃ hB : TH, hh = put hB p (.lst acc) ∧ hB p = none) (by simp [upTo]; omega) ⟨rfl, h1, rfl, hp⟩ (fun _ _ _ _ _ => trivial) (fun i x acc hh Kn ei j k1 _ => ?_) (fun acc hh j => ?_)
  · obtain ⟨rfl, hB, rfl, nB⟩ := j
    have hx : ∃ k : Nat, k < 5 ∧ x = .int (k : Int) := by
      have hm := List.mem_of_getElem? ei
      obtain ⟨k, hk, rfl⟩ := List.mem_map.mp hm
      have := List.mem_range.mp hk
      exact ⟨k, by omega, by simp⟩
    obtain ⟨k, hk, rfl⟩ := hx
    simp [lcItem, bRet, bRetN, bChain, bBin, bVar, bC, bNil, bCons, bTup, bLst, bDnew, bB, blQ, bUn, bAnd, bOr, bNot, bTru, truD, bAndV, bOrV, bNotV, bIf, iiD, addD, subD, fdivD, modD, powD, mulD, negD, ltD, leD, gtD, geD, eqG, eqD, neD, isN, isND, notND, inG, inD, notInD, inSeq, ixD, bNo, bPart, bSl, slD, bRev, bCall, bMeth, bMake, bFld, bProp, bBlt, lenD, absD, maxD, minD, divmodD, listD, tupleD, allD, anyD, isTyD, tyNm, tyIs, isOwnD, gN, gsNil, gsCons, gT, gS, setD, bNext, bSeq, bBreak, bCont, bNever, bExpr, bIfS, bAsg, bPar, bPar3, bSetF, bAug, iT, iL, iR1, iR2, iS, iEn, bFor, bYes, bLc, bMt, tyD, appendD, extendD, popD, joinD, bLstRg, rg1, rg2, bLstZip, bCallK, dictD, sortedD, keyOf, startT, toPy, toPys, pyOf, wipeT, c_law_cell, c_law_pool]
    refine ⟨by omega, fun w a b hw ia => ?_⟩
    have hw' := put_none hw
    refine right_ok put_same ia fun a b c => ?_
    rw [put_put, put_comm hw'.2.symm]
    refine k1 _ _ (put (put hB w (pl a b c)) p (.lst (List.replicate i (.bl true)))) (Sub.refl _) put_same ⟨by rw [List.replicate_succ'], put hB w (pl a b c), by rw [put_put], by rw [put_ne hw'.2.symm]; exact nB⟩
  · obtain ⟨rfl, hB, rfl, nB⟩ := j
    simp [boolsD, bools_rep]
    exact less_of (q _)
end T
set_option Elab.async false
set_option linter.all false
set_option maxRecDepth 100000
set_option maxHeartbeats 0
namespace K44
open PySem PySem.W PySem.Calls PyProof.Rows L2 T
def top (i : Nat) : Stmt := PySem.Challenge.pw_seatchains_k44_trips_that_always_follow.main.body.getD i (.Pass ⟨0, 0, 0, 0⟩)
def fs_Line : List Str := ["width", "booked", "rows"]
theorem len_is_whole : ∀ (ds : List D) (h : TH) (Q : TQ), c_is_whole ds h Q → ds.length = (["thing"] : List Str).length := fun ds h Q c => by
  unfold c_is_whole at c
  first | (rcases c with ⟨rfl, _⟩; rfl) | (rcases c with ⟨_, rfl, _⟩; rfl) | (rcases c with ⟨_, _, rfl, _⟩; rfl) | (rcases c with ⟨_, _, _, rfl, _⟩; rfl) | (rcases c with ⟨_, _, _, _, rfl, _⟩; rfl) | (rcases c with ⟨_, _, _, _, _, rfl, _⟩; rfl) | (rcases c with ⟨_, _, _, _, _, _, rfl, _⟩; rfl) | (rcases c with ⟨_, _, _, _, _, _, _, rfl, _⟩; rfl) | (rcases c with ⟨_, _, _, _, _, _, _, _, rfl, _⟩; rfl) | (split at c <;> first | rfl | exact c.elim)
theorem len_is_from : ∀ (ds : List D) (h : TH) (Q : TQ), c_is_from ds h Q → ds.length = (["thing", "least"] : List Str).length := fun ds h Q c => by
  unfold c_is_from at c
  first | (rcases c with ⟨rfl, _⟩; rfl) | (rcases c with ⟨_, rfl, _⟩; rfl) | (rcases c with ⟨_, _, rfl, _⟩; rfl) | (rcases c with ⟨_, _, _, rfl, _⟩; rfl) | (rcases c with ⟨_, _, _, _, rfl, _⟩; rfl) | (rcases c with ⟨_, _, _, _, _, rfl, _⟩; rfl) | (rcases c with ⟨_, _, _, _, _, _, rfl, _⟩; rfl) | (rcases c with ⟨_, _, _, _, _, _, _, rfl, _⟩; rfl) | (rcases c with ⟨_, _, _, _, _, _, _, _, rfl, _⟩; rfl) | (split at c <;> first | rfl | exact c.elim)
theorem len_is_between : ∀ (ds : List D) (h : TH) (Q : TQ), c_is_between ds h Q → ds.length = (["thing", "least", "most"] : List Str).length := fun ds h Q c => by
  unfold c_is_between at c
  first | (rcases c with ⟨rfl, _⟩; rfl) | (rcases c with ⟨_, rfl, _⟩; rfl) | (rcases c with ⟨_, _, rfl, _⟩; rfl) | (rcases c with ⟨_, _, _, rfl, _⟩; rfl) | (rcases c with ⟨_, _, _, _, rfl, _⟩; rfl) | (rcases c with ⟨_, _, _, _, _, rfl, _⟩; rfl) | (rcases c with ⟨_, _, _, _, _, _, rfl, _⟩; rfl) | (rcases c with ⟨_, _, _, _, _, _, _, rfl, _⟩; rfl) | (rcases c with ⟨_, _, _, _, _, _, _, _, rfl, _⟩; rfl) | (split at c <;> first | rfl | exact c.elim)
theorem len_is_name : ∀ (ds : List D) (h : TH) (Q : TQ), c_is_name ds h Q → ds.length = (["thing"] : List Str).length := fun ds h Q c => by
  unfold c_is_name at c
  first | (rcases c with ⟨rfl, _⟩; rfl) | (rcases c with ⟨_, rfl, _⟩; rfl) | (rcases c with ⟨_, _, rfl, _⟩; rfl) | (rcases c with ⟨_, _, _, rfl, _⟩; rfl) | (rcases c with ⟨_, _, _, _, rfl, _⟩; rfl) | (rcases c with ⟨_, _, _, _, _, rfl, _⟩; rfl) | (rcases c with ⟨_, _, _, _, _, _, rfl, _⟩; rfl) | (rcases c with ⟨_, _, _, _, _, _, _, rfl, _⟩; rfl) | (rcases c with ⟨_, _, _, _, _, _, _, _, rfl, _⟩; rfl) | (split at c <;> first | rfl | exact c.elim)
theorem len_is_trip : ∀ (ds : List D) (h : TH) (Q : TQ), c_is_trip ds h Q → ds.length = (["thing"] : List Str).length := fun ds h Q c => by
  unfold c_is_trip at c
  first | (rcases c with ⟨rfl, _⟩; rfl) | (rcases c with ⟨_, rfl, _⟩; rfl) | (rcases c with ⟨_, _, rfl, _⟩; rfl) | (rcases c with ⟨_, _, _, rfl, _⟩; rfl) | (rcases c with ⟨_, _, _, _, rfl, _⟩; rfl) | (rcases c with ⟨_, _, _, _, _, rfl, _⟩; rfl) | (rcases c with ⟨_, _, _, _, _, _, rfl, _⟩; rfl) | (rcases c with ⟨_, _, _, _, _, _, _, rfl, _⟩; rfl) | (rcases c with ⟨_, _, _, _, _, _, _, _, rfl, _⟩; rfl) | (split at c <;> first | rfl | exact c.elim)
theorem len_passes : ∀ (ds : List D) (h : TH) (Q : TQ), c_passes ds h Q → ds.length = (["trip", "station"] : List Str).length := fun ds h Q c => by
  unfold c_passes at c
  first | (rcases c with ⟨rfl, _⟩; rfl) | (rcases c with ⟨_, rfl, _⟩; rfl) | (rcases c with ⟨_, _, rfl, _⟩; rfl) | (rcases c with ⟨_, _, _, rfl, _⟩; rfl) | (rcases c with ⟨_, _, _, _, rfl, _⟩; rfl) | (rcases c with ⟨_, _, _, _, _, rfl, _⟩; rfl) | (rcases c with ⟨_, _, _, _, _, _, rfl, _⟩; rfl) | (rcases c with ⟨_, _, _, _, _, _, _, rfl, _⟩; rfl) | (rcases c with ⟨_, _, _, _, _, _, _, _, rfl, _⟩; rfl) | (split at c <;> first | rfl | exact c.elim)
theorem len_check_seats : ∀ (ds : List D) (h : TH) (Q : TQ), c_check_seats ds h Q → ds.length = (["thing"] : List Str).length := fun ds h Q c => by
  unfold c_check_seats at c
  first | (rcases c with ⟨rfl, _⟩; rfl) | (rcases c with ⟨_, rfl, _⟩; rfl) | (rcases c with ⟨_, _, rfl, _⟩; rfl) | (rcases c with ⟨_, _, _, rfl, _⟩; rfl) | (rcases c with ⟨_, _, _, _, rfl, _⟩; rfl) | (rcases c with ⟨_, _, _, _, _, rfl, _⟩; rfl) | (rcases c with ⟨_, _, _, _, _, _, rfl, _⟩; rfl) | (rcases c with ⟨_, _, _, _, _, _, _, rfl, _⟩; rfl) | (rcases c with ⟨_, _, _, _, _, _, _, _, rfl, _⟩; rfl) | (split at c <;> first | rfl | exact c.elim)
theorem len_first_wrong : ∀ (ds : List D) (h : TH) (Q : TQ), c_first_wrong ds h Q → ds.length = (["thing"] : List Str).length := fun ds h Q c => by
  unfold c_first_wrong at c
  first | (rcases c with ⟨rfl, _⟩; rfl) | (rcases c with ⟨_, rfl, _⟩; rfl) | (rcases c with ⟨_, _, rfl, _⟩; rfl) | (rcases c with ⟨_, _, _, rfl, _⟩; rfl) | (rcases c with ⟨_, _, _, _, rfl, _⟩; rfl) | (rcases c with ⟨_, _, _, _, _, rfl, _⟩; rfl) | (rcases c with ⟨_, _, _, _, _, _, rfl, _⟩; rfl) | (rcases c with ⟨_, _, _, _, _, _, _, rfl, _⟩; rfl) | (rcases c with ⟨_, _, _, _, _, _, _, _, rfl, _⟩; rfl) | (split at c <;> first | rfl | exact c.elim)
theorem len_by_start : ∀ (ds : List D) (h : TH) (Q : TQ), c_by_start ds h Q → ds.length = (["trips"] : List Str).length := fun ds h Q c => by
  unfold c_by_start at c
  first | (rcases c with ⟨rfl, _⟩; rfl) | (rcases c with ⟨_, rfl, _⟩; rfl) | (rcases c with ⟨_, _, rfl, _⟩; rfl) | (rcases c with ⟨_, _, _, rfl, _⟩; rfl) | (rcases c with ⟨_, _, _, _, rfl, _⟩; rfl) | (rcases c with ⟨_, _, _, _, _, rfl, _⟩; rfl) | (rcases c with ⟨_, _, _, _, _, _, rfl, _⟩; rfl) | (rcases c with ⟨_, _, _, _, _, _, _, rfl, _⟩; rfl) | (rcases c with ⟨_, _, _, _, _, _, _, _, rfl, _⟩; rfl) | (split at c <;> first | rfl | exact c.elim)
theorem len_Line_init : ∀ (ds : List D) (h : TH) (Q : TQ), c_Line_init ds h Q → ds.length = (["self", "seats", "trips"] : List Str).length := fun ds h Q c => by
  unfold c_Line_init at c
  first | (rcases c with ⟨rfl, _⟩; rfl) | (rcases c with ⟨_, rfl, _⟩; rfl) | (rcases c with ⟨_, _, rfl, _⟩; rfl) | (rcases c with ⟨_, _, _, rfl, _⟩; rfl) | (rcases c with ⟨_, _, _, _, rfl, _⟩; rfl) | (rcases c with ⟨_, _, _, _, _, rfl, _⟩; rfl) | (rcases c with ⟨_, _, _, _, _, _, rfl, _⟩; rfl) | (rcases c with ⟨_, _, _, _, _, _, _, rfl, _⟩; rfl) | (rcases c with ⟨_, _, _, _, _, _, _, _, rfl, _⟩; rfl) | (split at c <;> first | rfl | exact c.elim)
theorem len_Line_capacity : ∀ (ds : List D) (h : TH) (Q : TQ), c_Line_capacity ds h Q → ds.length = (["self"] : List Str).length := fun ds h Q c => by
  unfold c_Line_capacity at c
  first | (rcases c with ⟨rfl, _⟩; rfl) | (rcases c with ⟨_, rfl, _⟩; rfl) | (rcases c with ⟨_, _, rfl, _⟩; rfl) | (rcases c with ⟨_, _, _, rfl, _⟩; rfl) | (rcases c with ⟨_, _, _, _, rfl, _⟩; rfl) | (rcases c with ⟨_, _, _, _, _, rfl, _⟩; rfl) | (rcases c with ⟨_, _, _, _, _, _, rfl, _⟩; rfl) | (rcases c with ⟨_, _, _, _, _, _, _, rfl, _⟩; rfl) | (rcases c with ⟨_, _, _, _, _, _, _, _, rfl, _⟩; rfl) | (split at c <;> first | rfl | exact c.elim)
theorem len_Line_trips : ∀ (ds : List D) (h : TH) (Q : TQ), c_Line_trips ds h Q → ds.length = (["self"] : List Str).length := fun ds h Q c => by
  unfold c_Line_trips at c
  first | (rcases c with ⟨rfl, _⟩; rfl) | (rcases c with ⟨_, rfl, _⟩; rfl) | (rcases c with ⟨_, _, rfl, _⟩; rfl) | (rcases c with ⟨_, _, _, rfl, _⟩; rfl) | (rcases c with ⟨_, _, _, _, rfl, _⟩; rfl) | (rcases c with ⟨_, _, _, _, _, rfl, _⟩; rfl) | (rcases c with ⟨_, _, _, _, _, _, rfl, _⟩; rfl) | (rcases c with ⟨_, _, _, _, _, _, _, rfl, _⟩; rfl) | (rcases c with ⟨_, _, _, _, _, _, _, _, rfl, _⟩; rfl) | (split at c <;> first | rfl | exact c.elim)
theorem len_load_of : ∀ (ds : List D) (h : TH) (Q : TQ), c_load_of ds h Q → ds.length = (["trips", "station"] : List Str).length := fun ds h Q c => by
  unfold c_load_of at c
  first | (rcases c with ⟨rfl, _⟩; rfl) | (rcases c with ⟨_, rfl, _⟩; rfl) | (rcases c with ⟨_, _, rfl, _⟩; rfl) | (rcases c with ⟨_, _, _, rfl, _⟩; rfl) | (rcases c with ⟨_, _, _, _, rfl, _⟩; rfl) | (rcases c with ⟨_, _, _, _, _, rfl, _⟩; rfl) | (rcases c with ⟨_, _, _, _, _, _, rfl, _⟩; rfl) | (rcases c with ⟨_, _, _, _, _, _, _, rfl, _⟩; rfl) | (rcases c with ⟨_, _, _, _, _, _, _, _, rfl, _⟩; rfl) | (split at c <;> first | rfl | exact c.elim)
theorem len_Line_load : ∀ (ds : List D) (h : TH) (Q : TQ), c_Line_load ds h Q → ds.length = (["self", "station"] : List Str).length := fun ds h Q c => by
  unfold c_Line_load at c
  first | (rcases c with ⟨rfl, _⟩; rfl) | (rcases c with ⟨_, rfl, _⟩; rfl) | (rcases c with ⟨_, _, rfl, _⟩; rfl) | (rcases c with ⟨_, _, _, rfl, _⟩; rfl) | (rcases c with ⟨_, _, _, _, rfl, _⟩; rfl) | (rcases c with ⟨_, _, _, _, _, rfl, _⟩; rfl) | (rcases c with ⟨_, _, _, _, _, _, rfl, _⟩; rfl) | (rcases c with ⟨_, _, _, _, _, _, _, rfl, _⟩; rfl) | (rcases c with ⟨_, _, _, _, _, _, _, _, rfl, _⟩; rfl) | (split at c <;> first | rfl | exact c.elim)
theorem len_check_line : ∀ (ds : List D) (h : TH) (Q : TQ), c_check_line ds h Q → ds.length = (["thing"] : List Str).length := fun ds h Q c => by
  unfold c_check_line at c
  first | (rcases c with ⟨rfl, _⟩; rfl) | (rcases c with ⟨_, rfl, _⟩; rfl) | (rcases c with ⟨_, _, rfl, _⟩; rfl) | (rcases c with ⟨_, _, _, rfl, _⟩; rfl) | (rcases c with ⟨_, _, _, _, rfl, _⟩; rfl) | (rcases c with ⟨_, _, _, _, _, rfl, _⟩; rfl) | (rcases c with ⟨_, _, _, _, _, _, rfl, _⟩; rfl) | (rcases c with ⟨_, _, _, _, _, _, _, rfl, _⟩; rfl) | (rcases c with ⟨_, _, _, _, _, _, _, _, rfl, _⟩; rfl) | (split at c <;> first | rfl | exact c.elim)
theorem len_first_overfull : ∀ (ds : List D) (h : TH) (Q : TQ), c_first_overfull ds h Q → ds.length = (["line"] : List Str).length := fun ds h Q c => by
  unfold c_first_overfull at c
  first | (rcases c with ⟨rfl, _⟩; rfl) | (rcases c with ⟨_, rfl, _⟩; rfl) | (rcases c with ⟨_, _, rfl, _⟩; rfl) | (rcases c with ⟨_, _, _, rfl, _⟩; rfl) | (rcases c with ⟨_, _, _, _, rfl, _⟩; rfl) | (rcases c with ⟨_, _, _, _, _, rfl, _⟩; rfl) | (rcases c with ⟨_, _, _, _, _, _, rfl, _⟩; rfl) | (rcases c with ⟨_, _, _, _, _, _, _, rfl, _⟩; rfl) | (rcases c with ⟨_, _, _, _, _, _, _, _, rfl, _⟩; rfl) | (split at c <;> first | rfl | exact c.elim)
theorem len_only_follower : ∀ (ds : List D) (h : TH) (Q : TQ), c_only_follower ds h Q → ds.length = (["line", "trip"] : List Str).length := fun ds h Q c => by
  unfold c_only_follower at c
  first | (rcases c with ⟨rfl, _⟩; rfl) | (rcases c with ⟨_, rfl, _⟩; rfl) | (rcases c with ⟨_, _, rfl, _⟩; rfl) | (rcases c with ⟨_, _, _, rfl, _⟩; rfl) | (rcases c with ⟨_, _, _, _, rfl, _⟩; rfl) | (rcases c with ⟨_, _, _, _, _, rfl, _⟩; rfl) | (rcases c with ⟨_, _, _, _, _, _, rfl, _⟩; rfl) | (rcases c with ⟨_, _, _, _, _, _, _, rfl, _⟩; rfl) | (rcases c with ⟨_, _, _, _, _, _, _, _, rfl, _⟩; rfl) | (split at c <;> first | rfl | exact c.elim)
theorem len_always_follows : ∀ (ds : List D) (h : TH) (Q : TQ), c_always_follows ds h Q → ds.length = (["line"] : List Str).length := fun ds h Q c => by
  unfold c_always_follows at c
  first | (rcases c with ⟨rfl, _⟩; rfl) | (rcases c with ⟨_, rfl, _⟩; rfl) | (rcases c with ⟨_, _, rfl, _⟩; rfl) | (rcases c with ⟨_, _, _, rfl, _⟩; rfl) | (rcases c with ⟨_, _, _, _, rfl, _⟩; rfl) | (rcases c with ⟨_, _, _, _, _, rfl, _⟩; rfl) | (rcases c with ⟨_, _, _, _, _, _, rfl, _⟩; rfl) | (rcases c with ⟨_, _, _, _, _, _, _, rfl, _⟩; rfl) | (rcases c with ⟨_, _, _, _, _, _, _, _, rfl, _⟩; rfl) | (split at c <;> first | rfl | exact c.elim)
theorem len_law_cell : ∀ (ds : List D) (h : TH) (Q : TQ), c_law_cell ds h Q → ds.length = (["script", "k"] : List Str).length := fun ds h Q c => by
  unfold c_law_cell at c
  first | (rcases c with ⟨rfl, _⟩; rfl) | (rcases c with ⟨_, rfl, _⟩; rfl) | (rcases c with ⟨_, _, rfl, _⟩; rfl) | (rcases c with ⟨_, _, _, rfl, _⟩; rfl) | (rcases c with ⟨_, _, _, _, rfl, _⟩; rfl) | (rcases c with ⟨_, _, _, _, _, rfl, _⟩; rfl) | (rcases c with ⟨_, _, _, _, _, _, rfl, _⟩; rfl) | (rcases c with ⟨_, _, _, _, _, _, _, rfl, _⟩; rfl) | (rcases c with ⟨_, _, _, _, _, _, _, _, rfl, _⟩; rfl) | (split at c <;> first | rfl | exact c.elim)
theorem len_law_pool : ∀ (ds : List D) (h : TH) (Q : TQ), c_law_pool ds h Q → ds.length = (["cell"] : List Str).length := fun ds h Q c => by
  unfold c_law_pool at c
  first | (rcases c with ⟨rfl, _⟩; rfl) | (rcases c with ⟨_, rfl, _⟩; rfl) | (rcases c with ⟨_, _, rfl, _⟩; rfl) | (rcases c with ⟨_, _, _, rfl, _⟩; rfl) | (rcases c with ⟨_, _, _, _, rfl, _⟩; rfl) | (rcases c with ⟨_, _, _, _, _, rfl, _⟩; rfl) | (rcases c with ⟨_, _, _, _, _, _, rfl, _⟩; rfl) | (rcases c with ⟨_, _, _, _, _, _, _, rfl, _⟩; rfl) | (rcases c with ⟨_, _, _, _, _, _, _, _, rfl, _⟩; rfl) | (split at c <;> first | rfl | exact c.elim)
theorem len_law_draw : ∀ (ds : List D) (h : TH) (Q : TQ), c_law_draw ds h Q → ds.length = (["pool", "many"] : List Str).length := fun ds h Q c => by
  unfold c_law_draw at c
  first | (rcases c with ⟨rfl, _⟩; rfl) | (rcases c with ⟨_, rfl, _⟩; rfl) | (rcases c with ⟨_, _, rfl, _⟩; rfl) | (rcases c with ⟨_, _, _, rfl, _⟩; rfl) | (rcases c with ⟨_, _, _, _, rfl, _⟩; rfl) | (rcases c with ⟨_, _, _, _, _, rfl, _⟩; rfl) | (rcases c with ⟨_, _, _, _, _, _, rfl, _⟩; rfl) | (rcases c with ⟨_, _, _, _, _, _, _, rfl, _⟩; rfl) | (rcases c with ⟨_, _, _, _, _, _, _, _, rfl, _⟩; rfl) | (split at c <;> first | rfl | exact c.elim)
theorem len_law_words : ∀ (ds : List D) (h : TH) (Q : TQ), c_law_words ds h Q → ds.length = (["pool", "many"] : List Str).length := fun ds h Q c => by
  unfold c_law_words at c
  first | (rcases c with ⟨rfl, _⟩; rfl) | (rcases c with ⟨_, rfl, _⟩; rfl) | (rcases c with ⟨_, _, rfl, _⟩; rfl) | (rcases c with ⟨_, _, _, rfl, _⟩; rfl) | (rcases c with ⟨_, _, _, _, rfl, _⟩; rfl) | (rcases c with ⟨_, _, _, _, _, rfl, _⟩; rfl) | (rcases c with ⟨_, _, _, _, _, _, rfl, _⟩; rfl) | (rcases c with ⟨_, _, _, _, _, _, _, rfl, _⟩; rfl) | (rcases c with ⟨_, _, _, _, _, _, _, _, rfl, _⟩; rfl) | (split at c <;> first | rfl | exact c.elim)
theorem len_law_far : ∀ (ds : List D) (h : TH) (Q : TQ), c_law_far ds h Q → ds.length = (["pool", "high"] : List Str).length := fun ds h Q c => by
  unfold c_law_far at c
  first | (rcases c with ⟨rfl, _⟩; rfl) | (rcases c with ⟨_, rfl, _⟩; rfl) | (rcases c with ⟨_, _, rfl, _⟩; rfl) | (rcases c with ⟨_, _, _, rfl, _⟩; rfl) | (rcases c with ⟨_, _, _, _, rfl, _⟩; rfl) | (rcases c with ⟨_, _, _, _, _, rfl, _⟩; rfl) | (rcases c with ⟨_, _, _, _, _, _, rfl, _⟩; rfl) | (rcases c with ⟨_, _, _, _, _, _, _, rfl, _⟩; rfl) | (rcases c with ⟨_, _, _, _, _, _, _, _, rfl, _⟩; rfl) | (split at c <;> first | rfl | exact c.elim)
theorem len_law_rides : ∀ (ds : List D) (h : TH) (Q : TQ), c_law_rides ds h Q → ds.length = (["pool", "words", "high"] : List Str).length := fun ds h Q c => by
  unfold c_law_rides at c
  first | (rcases c with ⟨rfl, _⟩; rfl) | (rcases c with ⟨_, rfl, _⟩; rfl) | (rcases c with ⟨_, _, rfl, _⟩; rfl) | (rcases c with ⟨_, _, _, rfl, _⟩; rfl) | (rcases c with ⟨_, _, _, _, rfl, _⟩; rfl) | (rcases c with ⟨_, _, _, _, _, rfl, _⟩; rfl) | (rcases c with ⟨_, _, _, _, _, _, rfl, _⟩; rfl) | (rcases c with ⟨_, _, _, _, _, _, _, rfl, _⟩; rfl) | (rcases c with ⟨_, _, _, _, _, _, _, _, rfl, _⟩; rfl) | (split at c <;> first | rfl | exact c.elim)
theorem len_law_meet : ∀ (ds : List D) (h : TH) (Q : TQ), c_law_meet ds h Q → ds.length = (["one_ride", "more_ride"] : List Str).length := fun ds h Q c => by
  unfold c_law_meet at c
  first | (rcases c with ⟨rfl, _⟩; rfl) | (rcases c with ⟨_, rfl, _⟩; rfl) | (rcases c with ⟨_, _, rfl, _⟩; rfl) | (rcases c with ⟨_, _, _, rfl, _⟩; rfl) | (rcases c with ⟨_, _, _, _, rfl, _⟩; rfl) | (rcases c with ⟨_, _, _, _, _, rfl, _⟩; rfl) | (rcases c with ⟨_, _, _, _, _, _, rfl, _⟩; rfl) | (rcases c with ⟨_, _, _, _, _, _, _, rfl, _⟩; rfl) | (rcases c with ⟨_, _, _, _, _, _, _, _, rfl, _⟩; rfl) | (split at c <;> first | rfl | exact c.elim)
theorem len_law_by_start : ∀ (ds : List D) (h : TH) (Q : TQ), c_law_by_start ds h Q → ds.length = (["rides"] : List Str).length := fun ds h Q c => by
  unfold c_law_by_start at c
  first | (rcases c with ⟨rfl, _⟩; rfl) | (rcases c with ⟨_, rfl, _⟩; rfl) | (rcases c with ⟨_, _, rfl, _⟩; rfl) | (rcases c with ⟨_, _, _, rfl, _⟩; rfl) | (rcases c with ⟨_, _, _, _, rfl, _⟩; rfl) | (rcases c with ⟨_, _, _, _, _, rfl, _⟩; rfl) | (rcases c with ⟨_, _, _, _, _, _, rfl, _⟩; rfl) | (rcases c with ⟨_, _, _, _, _, _, _, rfl, _⟩; rfl) | (rcases c with ⟨_, _, _, _, _, _, _, _, rfl, _⟩; rfl) | (split at c <;> first | rfl | exact c.elim)
theorem len_law_load : ∀ (ds : List D) (h : TH) (Q : TQ), c_law_load ds h Q → ds.length = (["rides", "place"] : List Str).length := fun ds h Q c => by
  unfold c_law_load at c
  first | (rcases c with ⟨rfl, _⟩; rfl) | (rcases c with ⟨_, rfl, _⟩; rfl) | (rcases c with ⟨_, _, rfl, _⟩; rfl) | (rcases c with ⟨_, _, _, rfl, _⟩; rfl) | (rcases c with ⟨_, _, _, _, rfl, _⟩; rfl) | (rcases c with ⟨_, _, _, _, _, rfl, _⟩; rfl) | (rcases c with ⟨_, _, _, _, _, _, rfl, _⟩; rfl) | (rcases c with ⟨_, _, _, _, _, _, _, rfl, _⟩; rfl) | (rcases c with ⟨_, _, _, _, _, _, _, _, rfl, _⟩; rfl) | (split at c <;> first | rfl | exact c.elim)
theorem len_law_peak : ∀ (ds : List D) (h : TH) (Q : TQ), c_law_peak ds h Q → ds.length = (["rides"] : List Str).length := fun ds h Q c => by
  unfold c_law_peak at c
  first | (rcases c with ⟨rfl, _⟩; rfl) | (rcases c with ⟨_, rfl, _⟩; rfl) | (rcases c with ⟨_, _, rfl, _⟩; rfl) | (rcases c with ⟨_, _, _, rfl, _⟩; rfl) | (rcases c with ⟨_, _, _, _, rfl, _⟩; rfl) | (rcases c with ⟨_, _, _, _, _, rfl, _⟩; rfl) | (rcases c with ⟨_, _, _, _, _, _, rfl, _⟩; rfl) | (rcases c with ⟨_, _, _, _, _, _, _, rfl, _⟩; rfl) | (rcases c with ⟨_, _, _, _, _, _, _, _, rfl, _⟩; rfl) | (split at c <;> first | rfl | exact c.elim)
theorem len_law_choices : ∀ (ds : List D) (h : TH) (Q : TQ), c_law_choices ds h Q → ds.length = (["width", "rides", "held", "ride"] : List Str).length := fun ds h Q c => by
  unfold c_law_choices at c
  first | (rcases c with ⟨rfl, _⟩; rfl) | (rcases c with ⟨_, rfl, _⟩; rfl) | (rcases c with ⟨_, _, rfl, _⟩; rfl) | (rcases c with ⟨_, _, _, rfl, _⟩; rfl) | (rcases c with ⟨_, _, _, _, rfl, _⟩; rfl) | (rcases c with ⟨_, _, _, _, _, rfl, _⟩; rfl) | (rcases c with ⟨_, _, _, _, _, _, rfl, _⟩; rfl) | (rcases c with ⟨_, _, _, _, _, _, _, rfl, _⟩; rfl) | (rcases c with ⟨_, _, _, _, _, _, _, _, rfl, _⟩; rfl) | (split at c <;> first | rfl | exact c.elim)
theorem len_law_flat : ∀ (ds : List D) (h : TH) (Q : TQ), c_law_flat ds h Q → ds.length = (["held"] : List Str).length := fun ds h Q c => by
  unfold c_law_flat at c
  first | (rcases c with ⟨rfl, _⟩; rfl) | (rcases c with ⟨_, rfl, _⟩; rfl) | (rcases c with ⟨_, _, rfl, _⟩; rfl) | (rcases c with ⟨_, _, _, rfl, _⟩; rfl) | (rcases c with ⟨_, _, _, _, rfl, _⟩; rfl) | (rcases c with ⟨_, _, _, _, _, rfl, _⟩; rfl) | (rcases c with ⟨_, _, _, _, _, _, rfl, _⟩; rfl) | (rcases c with ⟨_, _, _, _, _, _, _, rfl, _⟩; rfl) | (rcases c with ⟨_, _, _, _, _, _, _, _, rfl, _⟩; rfl) | (split at c <;> first | rfl | exact c.elim)
theorem len_law_all_plans : ∀ (ds : List D) (h : TH) (Q : TQ), c_law_all_plans ds h Q → ds.length = (["width", "rides"] : List Str).length := fun ds h Q c => by
  unfold c_law_all_plans at c
  first | (rcases c with ⟨rfl, _⟩; rfl) | (rcases c with ⟨_, rfl, _⟩; rfl) | (rcases c with ⟨_, _, rfl, _⟩; rfl) | (rcases c with ⟨_, _, _, rfl, _⟩; rfl) | (rcases c with ⟨_, _, _, _, rfl, _⟩; rfl) | (rcases c with ⟨_, _, _, _, _, rfl, _⟩; rfl) | (rcases c with ⟨_, _, _, _, _, _, rfl, _⟩; rfl) | (rcases c with ⟨_, _, _, _, _, _, _, rfl, _⟩; rfl) | (rcases c with ⟨_, _, _, _, _, _, _, _, rfl, _⟩; rfl) | (split at c <;> first | rfl | exact c.elim)
theorem len_law_held : ∀ (ds : List D) (h : TH) (Q : TQ), c_law_held ds h Q → ds.length = (["spots"] : List Str).length := fun ds h Q c => by
  unfold c_law_held at c
  first | (rcases c with ⟨rfl, _⟩; rfl) | (rcases c with ⟨_, rfl, _⟩; rfl) | (rcases c with ⟨_, _, rfl, _⟩; rfl) | (rcases c with ⟨_, _, _, rfl, _⟩; rfl) | (rcases c with ⟨_, _, _, _, rfl, _⟩; rfl) | (rcases c with ⟨_, _, _, _, _, rfl, _⟩; rfl) | (rcases c with ⟨_, _, _, _, _, _, rfl, _⟩; rfl) | (rcases c with ⟨_, _, _, _, _, _, _, rfl, _⟩; rfl) | (rcases c with ⟨_, _, _, _, _, _, _, _, rfl, _⟩; rfl) | (split at c <;> first | rfl | exact c.elim)
theorem len_law_small : ∀ (ds : List D) (h : TH) (Q : TQ), c_law_small ds h Q → ds.length = (["pool"] : List Str).length := fun ds h Q c => by
  unfold c_law_small at c
  first | (rcases c with ⟨rfl, _⟩; rfl) | (rcases c with ⟨_, rfl, _⟩; rfl) | (rcases c with ⟨_, _, rfl, _⟩; rfl) | (rcases c with ⟨_, _, _, rfl, _⟩; rfl) | (rcases c with ⟨_, _, _, _, rfl, _⟩; rfl) | (rcases c with ⟨_, _, _, _, _, rfl, _⟩; rfl) | (rcases c with ⟨_, _, _, _, _, _, rfl, _⟩; rfl) | (rcases c with ⟨_, _, _, _, _, _, _, rfl, _⟩; rfl) | (rcases c with ⟨_, _, _, _, _, _, _, _, rfl, _⟩; rfl) | (split at c <;> first | rfl | exact c.elim)
theorem len_law_next_pairs : ∀ (ds : List D) (h : TH) (Q : TQ), c_law_next_pairs ds h Q → ds.length = (["width", "rides", "spots"] : List Str).length := fun ds h Q c => by
  unfold c_law_next_pairs at c
  first | (rcases c with ⟨rfl, _⟩; rfl) | (rcases c with ⟨_, rfl, _⟩; rfl) | (rcases c with ⟨_, _, rfl, _⟩; rfl) | (rcases c with ⟨_, _, _, rfl, _⟩; rfl) | (rcases c with ⟨_, _, _, _, rfl, _⟩; rfl) | (rcases c with ⟨_, _, _, _, _, rfl, _⟩; rfl) | (rcases c with ⟨_, _, _, _, _, _, rfl, _⟩; rfl) | (rcases c with ⟨_, _, _, _, _, _, _, rfl, _⟩; rfl) | (rcases c with ⟨_, _, _, _, _, _, _, _, rfl, _⟩; rfl) | (split at c <;> first | rfl | exact c.elim)
theorem len_law_every : ∀ (ds : List D) (h : TH) (Q : TQ), c_law_every ds h Q → ds.length = (["width", "rides"] : List Str).length := fun ds h Q c => by
  unfold c_law_every at c
  first | (rcases c with ⟨rfl, _⟩; rfl) | (rcases c with ⟨_, rfl, _⟩; rfl) | (rcases c with ⟨_, _, rfl, _⟩; rfl) | (rcases c with ⟨_, _, _, rfl, _⟩; rfl) | (rcases c with ⟨_, _, _, _, rfl, _⟩; rfl) | (rcases c with ⟨_, _, _, _, _, rfl, _⟩; rfl) | (rcases c with ⟨_, _, _, _, _, _, rfl, _⟩; rfl) | (rcases c with ⟨_, _, _, _, _, _, _, rfl, _⟩; rfl) | (rcases c with ⟨_, _, _, _, _, _, _, _, rfl, _⟩; rfl) | (split at c <;> first | rfl | exact c.elim)
theorem len_law_backwards : ∀ (ds : List D) (h : TH) (Q : TQ), c_law_backwards ds h Q → ds.length = (["rides"] : List Str).length := fun ds h Q c => by
  unfold c_law_backwards at c
  first | (rcases c with ⟨rfl, _⟩; rfl) | (rcases c with ⟨_, rfl, _⟩; rfl) | (rcases c with ⟨_, _, rfl, _⟩; rfl) | (rcases c with ⟨_, _, _, rfl, _⟩; rfl) | (rcases c with ⟨_, _, _, _, rfl, _⟩; rfl) | (rcases c with ⟨_, _, _, _, _, rfl, _⟩; rfl) | (rcases c with ⟨_, _, _, _, _, _, rfl, _⟩; rfl) | (rcases c with ⟨_, _, _, _, _, _, _, rfl, _⟩; rfl) | (rcases c with ⟨_, _, _, _, _, _, _, _, rfl, _⟩; rfl) | (split at c <;> first | rfl | exact c.elim)
theorem len_law_right : ∀ (ds : List D) (h : TH) (Q : TQ), c_law_right ds h Q → ds.length = (["pool"] : List Str).length := fun ds h Q c => by
  unfold c_law_right at c
  first | (rcases c with ⟨rfl, _⟩; rfl) | (rcases c with ⟨_, rfl, _⟩; rfl) | (rcases c with ⟨_, _, rfl, _⟩; rfl) | (rcases c with ⟨_, _, _, rfl, _⟩; rfl) | (rcases c with ⟨_, _, _, _, rfl, _⟩; rfl) | (rcases c with ⟨_, _, _, _, _, rfl, _⟩; rfl) | (rcases c with ⟨_, _, _, _, _, _, rfl, _⟩; rfl) | (rcases c with ⟨_, _, _, _, _, _, _, rfl, _⟩; rfl) | (rcases c with ⟨_, _, _, _, _, _, _, _, rfl, _⟩; rfl) | (split at c <;> first | rfl | exact c.elim)
theorem len_law_by_hand : ∀ (ds : List D) (h : TH) (Q : TQ), c_law_by_hand ds h Q → ds.length = ([] : List Str).length := fun ds h Q c => by
  unfold c_law_by_hand at c
  first | (rcases c with ⟨rfl, _⟩; rfl) | (rcases c with ⟨_, rfl, _⟩; rfl) | (rcases c with ⟨_, _, rfl, _⟩; rfl) | (rcases c with ⟨_, _, _, rfl, _⟩; rfl) | (rcases c with ⟨_, _, _, _, rfl, _⟩; rfl) | (rcases c with ⟨_, _, _, _, _, rfl, _⟩; rfl) | (rcases c with ⟨_, _, _, _, _, _, rfl, _⟩; rfl) | (rcases c with ⟨_, _, _, _, _, _, _, rfl, _⟩; rfl) | (rcases c with ⟨_, _, _, _, _, _, _, _, rfl, _⟩; rfl) | (split at c <;> first | rfl | exact c.elim)
theorem len_law : ∀ (ds : List D) (h : TH) (Q : TQ), c_law ds h Q → ds.length = (["script"] : List Str).length := fun ds h Q c => by
  unfold c_law at c
  first | (rcases c with ⟨rfl, _⟩; rfl) | (rcases c with ⟨_, rfl, _⟩; rfl) | (rcases c with ⟨_, _, rfl, _⟩; rfl) | (rcases c with ⟨_, _, _, rfl, _⟩; rfl) | (rcases c with ⟨_, _, _, _, rfl, _⟩; rfl) | (rcases c with ⟨_, _, _, _, _, rfl, _⟩; rfl) | (rcases c with ⟨_, _, _, _, _, _, rfl, _⟩; rfl) | (rcases c with ⟨_, _, _, _, _, _, _, rfl, _⟩; rfl) | (rcases c with ⟨_, _, _, _, _, _, _, _, rfl, _⟩; rfl) | (split at c <;> first | rfl | exact c.elim)
section
variable {P : Program} {w : World} {K : PySem.W.Frag} {mg : Str → Option Value} {base : Heap}
theorem sc_is_whole : FnScope ["thing"] ["thing"] (defScope (top 14)) := ⟨rfl, rfl, rfl, by decide +kernel, rfl, by decide +kernel, by decide +kernel⟩
theorem dv_is_whole (fr_int : mg "int" = none) (fr_isinstance : mg "isinstance" = none) (fr_bool : mg "bool" = none) {f : Addr} {cdv : Value} {A : Around} {outer : List Env} {s : Shared} {H : Hp} {E : XK} (hr : Room 0 (A.deeper (envOfC "is_whole" (defScope (top 14)) s.heap.objs.size f cdv))) :
    TPSs (cxOf CX0 P w K mg base ["thing"] "is_whole" (defScope (top 14)) f cdv A outer s H E).nox (defBody (top 14)) rd_is_whole :=
  s_one (s_ret (t_and (t_blt (b_isTy (n := "int") (cs := []) (by decide) (by decide) (by intro c hc; cases hc)) fr_isinstance (t_cons (t_var 0) (t_cons (t_ty fr_int) (t_nil)))) (t_one (t_notV (t_blt (b_isTy (n := "bool") (cs := []) (by decide) (by decide) (by intro c hc; cases hc)) fr_isinstance (t_cons (t_var 0) (t_cons (t_ty fr_bool) (t_nil))))))))
theorem ok_is_whole (fr_int : mg "int" = none) (fr_isinstance : mg "isinstance" = none) (fr_bool : mg "bool" = none) {f : Addr} {fd : FuncData} (F : FunD K "is_whole" "is_whole" (defArgs (top 14)) (defBody (top 14)) (defScope (top 14)) [] [] f fd) : FnOk P w K mg base CX0 1 f fd ["thing"] (toSp K mg c_is_whole) :=
  okT F sc_is_whole len_is_whole (fun _ _ _ _ _ _ hr => dv_is_whole fr_int fr_isinstance fr_bool hr) con_is_whole
theorem sc_is_from : FnScope ["thing", "least"] ["thing", "least"] (defScope (top 15)) := ⟨rfl, rfl, rfl, by decide +kernel, rfl, by decide +kernel, by decide +kernel⟩
theorem dv_is_from (f_is_whole : Cal P w K mg base 1 "is_whole" [] c_is_whole) {f : Addr} {cdv : Value} {A : Around} {outer : List Env} {s : Shared} {H : Hp} {E : XK} (hr : Room 1 (A.deeper (envOfC "is_from" (defScope (top 15)) s.heap.objs.size f cdv))) :
    TPSs (cxOf CX0 P w K mg base ["thing", "least"] "is_from" (defScope (top 15)) f cdv A outer s H E).nox (defBody (top 15)) rd_is_from :=
  s_one (s_ret (t_and (t_call f_is_whole (hr.mono (by decide)) (t_cons (t_var 0) (t_nil))) (t_one (t_cmp o_ge (t_var 0) (t_var 1)))))
theorem ok_is_from (f_is_whole : Cal P w K mg base 1 "is_whole" [] c_is_whole) {f : Addr} {fd : FuncData} (F : FunD K "is_from" "is_from" (defArgs (top 15)) (defBody (top 15)) (defScope (top 15)) [] [] f fd) : FnOk P w K mg base CX0 2 f fd ["thing", "least"] (toSp K mg c_is_from) :=
  okT F sc_is_from len_is_from (fun _ _ _ _ _ _ hr => dv_is_from f_is_whole hr) con_is_from
theorem sc_is_between : FnScope ["thing", "least", "most"] ["thing", "least", "most"] (defScope (top 16)) := ⟨rfl, rfl, rfl, by decide +kernel, rfl, by decide +kernel, by decide +kernel⟩
theorem dv_is_between (f_is_whole : Cal P w K mg base 1 "is_whole" [] c_is_whole) {f : Addr} {cdv : Value} {A : Around} {outer : List Env} {s : Shared} {H : Hp} {E : XK} (hr : Room 1 (A.deeper (envOfC "is_between" (defScope (top 16)) s.heap.objs.size f cdv))) :
    TPSs (cxOf CX0 P w K mg base ["thing", "least", "most"] "is_between" (defScope (top 16)) f cdv A outer s H E).nox (defBody (top 16)) rd_is_between :=
  s_one (s_ret (t_and (t_call f_is_whole (hr.mono (by decide)) (t_cons (t_var 0) (t_nil))) (t_one (t_chain o_le o_le (t_var 1) (t_var 0) (t_var 2)))))
theorem ok_is_between (f_is_whole : Cal P w K mg base 1 "is_whole" [] c_is_whole) {f : Addr} {fd : FuncData} (F : FunD K "is_between" "is_between" (defArgs (top 16)) (defBody (top 16)) (defScope (top 16)) [] [] f fd) : FnOk P w K mg base CX0 2 f fd ["thing", "least", "most"] (toSp K mg c_is_between) :=
  okT F sc_is_between len_is_between (fun _ _ _ _ _ _ hr => dv_is_between f_is_whole hr) con_is_between
theorem sc_is_name : FnScope ["thing", "letter"] ["thing"] (defScope (top 17)) := ⟨rfl, rfl, rfl, by decide +kernel, rfl, by decide +kernel, by decide +kernel⟩
theorem dv_is_name (fr_str : mg "str" = none) (fr_isinstance : mg "isinstance" = none) (fr_len : mg "len" = none) (k_LETTERS : ∃ t, mg "LETTERS" = some (.str "abcdefghijklmnopqrstuvwxyz" t)) (fr_all : mg "all" = none) {f : Addr} {cdv : Value} {A : Around} {outer : List Env} {s : Shared} {H : Hp} {E : XK} (hr : Room 0 (A.deeper (envOfC "is_name" (defScope (top 17)) s.heap.objs.size f cdv))) :
    TPSs (cxOf CX0 P w K mg base ["thing", "letter"] "is_name" (defScope (top 17)) f cdv A outer s H E).nox (defBody (top 17)) rd_is_name :=
  s_one (s_ret (t_and (t_blt (b_isTy (n := "str") (cs := []) (by decide) (by decide) (by intro c hc; cases hc)) fr_isinstance (t_cons (t_var 0) (t_cons (t_ty fr_str) (t_nil)))) (t_and (t_chain o_lt o_lt (t_int) (t_blt b_len fr_len (t_cons (t_var 0) (t_nil))) (t_int)) (t_one (t_blt (b_all rfl) fr_all (t_cons (t_lc [("letter", 1)] rfl sc_is_name.nd (i_str (t_var 0)) (by kernel_rfl) (fun _ _ _ _ _ => g_name 1 sc_is_name.nd) (fun _ _ _ _ _ => c_yes) (fun _ _ _ _ _ => t_cmp (o_in (units65 hr)) (t_var 1) (t_gstr rfl k_LETTERS))) (t_nil)))))))
theorem ok_is_name (fr_str : mg "str" = none) (fr_isinstance : mg "isinstance" = none) (fr_len : mg "len" = none) (k_LETTERS : ∃ t, mg "LETTERS" = some (.str "abcdefghijklmnopqrstuvwxyz" t)) (fr_all : mg "all" = none) {f : Addr} {fd : FuncData} (F : FunD K "is_name" "is_name" (defArgs (top 17)) (defBody (top 17)) (defScope (top 17)) [] [] f fd) : FnOk P w K mg base CX0 1 f fd ["thing"] (toSp K mg c_is_name) :=
  okT F sc_is_name len_is_name (fun _ _ _ _ _ _ hr => dv_is_name fr_str fr_isinstance fr_len k_LETTERS fr_all hr) con_is_name
theorem sc_is_trip : FnScope ["thing"] ["thing"] (defScope (top 18)) := ⟨rfl, rfl, rfl, by decide +kernel, rfl, by decide +kernel, by decide +kernel⟩
theorem dv_is_trip (fr_tuple : mg "tuple" = none) (fr_isinstance : mg "isinstance" = none) (fr_len : mg "len" = none) (f_is_name : Cal P w K mg base 1 "is_name" [] c_is_name) (f_is_from : Cal P w K mg base 2 "is_from" [] c_is_from) (f_is_whole : Cal P w K mg base 1 "is_whole" [] c_is_whole) {f : Addr} {cdv : Value} {A : Around} {outer : List Env} {s : Shared} {H : Hp} {E : XK} (hr : Room 2 (A.deeper (envOfC "is_trip" (defScope (top 18)) s.heap.objs.size f cdv))) :
    TPSs (cxOf CX0 P w K mg base ["thing"] "is_trip" (defScope (top 18)) f cdv A outer s H E).nox (defBody (top 18)) rd_is_trip :=
  s_cons (s_if (t_pw (w_or (t_notT (t_tru (t_blt (b_isTy (n := "tuple") (cs := []) (by decide) (by decide) (by intro c hc; cases hc)) fr_isinstance (t_cons (t_var 0) (t_cons (t_ty fr_tuple) (t_nil)))))) (w_or (t_cmpT (o_ne (units64 hr)) (t_blt b_len fr_len (t_cons (t_var 0) (t_nil))) (t_int)) (w_or1 (t_notT (t_tru (t_call f_is_name (hr.mono (by decide)) (t_cons (t_ix (units1 hr) (t_var 0) (t_int)) (t_nil))))))))) (s_one (s_ret (t_bl))) (s_nil)) (s_one (s_ret (t_and (t_call f_is_from (hr.mono (by decide)) (t_cons (t_ix (units1 hr) (t_var 0) (t_int)) (t_cons (t_int) (t_nil)))) (t_and (t_call f_is_whole (hr.mono (by decide)) (t_cons (t_ix (units1 hr) (t_var 0) (t_int)) (t_nil))) (t_one (t_cmp o_gt (t_ix (units1 hr) (t_var 0) (t_int)) (t_ix (units1 hr) (t_var 0) (t_int))))))))
theorem ok_is_trip (fr_tuple : mg "tuple" = none) (fr_isinstance : mg "isinstance" = none) (fr_len : mg "len" = none) (f_is_name : Cal P w K mg base 1 "is_name" [] c_is_name) (f_is_from : Cal P w K mg base 2 "is_from" [] c_is_from) (f_is_whole : Cal P w K mg base 1 "is_whole" [] c_is_whole) {f : Addr} {fd : FuncData} (F : FunD K "is_trip" "is_trip" (defArgs (top 18)) (defBody (top 18)) (defScope (top 18)) [] [] f fd) : FnOk P w K mg base CX0 3 f fd ["thing"] (toSp K mg c_is_trip) :=
  okT F sc_is_trip len_is_trip (fun _ _ _ _ _ _ hr => dv_is_trip fr_tuple fr_isinstance fr_len f_is_name f_is_from f_is_whole hr) con_is_trip
theorem sc_passes : FnScope ["trip", "station"] ["trip", "station"] (defScope (top 20)) := ⟨rfl, rfl, rfl, by decide +kernel, rfl, by decide +kernel, by decide +kernel⟩
theorem dv_passes  {f : Addr} {cdv : Value} {A : Around} {outer : List Env} {s : Shared} {H : Hp} {E : XK} (hr : Room 0 (A.deeper (envOfC "passes" (defScope (top 20)) s.heap.objs.size f cdv))) :
    TPSs (cxOf CX0 P w K mg base ["trip", "station"] "passes" (defScope (top 20)) f cdv A outer s H E).nox (defBody (top 20)) rd_passes :=
  s_one (s_ret (t_chain o_le o_lt (t_ix (units1 hr) (t_var 0) (t_int)) (t_var 1) (t_ix (units1 hr) (t_var 0) (t_int))))
theorem ok_passes  {f : Addr} {fd : FuncData} (F : FunD K "passes" "passes" (defArgs (top 20)) (defBody (top 20)) (defScope (top 20)) [] [] f fd) : FnOk P w K mg base CX0 1 f fd ["trip", "station"] (toSp K mg c_passes) :=
  okT F sc_passes len_passes (fun _ _ _ _ _ _ hr => dv_passes  hr) con_passes
theorem sc_check_seats : FnScope ["thing"] ["thing"] (defScope (top 24)) := ⟨rfl, rfl, rfl, by decide +kernel, rfl, by decide +kernel, by decide +kernel⟩
theorem dv_check_seats (k_MAX_SEATS : ∃ t, mg "MAX_SEATS" = some (.int 20 t)) (f_is_between : Cal P w K mg base 2 "is_between" [] c_is_between) {f : Addr} {cdv : Value} {A : Around} {outer : List Env} {s : Shared} {H : Hp} {E : XK} (hr : Room 2 (A.deeper (envOfC "check_seats" (defScope (top 24)) s.heap.objs.size f cdv))) :
    TPSs (cxOf CX0 P w K mg base ["thing"] "check_seats" (defScope (top 24)) f cdv A outer s H E).nox (defBody (top 24)) rd_check_seats :=
  s_one (s_if (t_notT (t_tru (t_call f_is_between (hr.mono (by decide)) (t_cons (t_var 0) (t_cons (t_int) (t_cons (t_gint rfl k_MAX_SEATS) (t_nil))))))) (s_one (s_never)) (s_nil))
theorem ok_check_seats (k_MAX_SEATS : ∃ t, mg "MAX_SEATS" = some (.int 20 t)) (f_is_between : Cal P w K mg base 2 "is_between" [] c_is_between) {f : Addr} {fd : FuncData} (F : FunD K "check_seats" "check_seats" (defArgs (top 24)) (defBody (top 24)) (defScope (top 24)) [] [] f fd) : FnOk P w K mg base CX0 3 f fd ["thing"] (toSp K mg c_check_seats) :=
  okT F sc_check_seats len_check_seats (fun _ _ _ _ _ _ hr => dv_check_seats k_MAX_SEATS f_is_between hr) con_check_seats
theorem sc_first_wrong : FnScope ["thing", "index", "trip"] ["thing"] (defScope (top 25)) := ⟨rfl, rfl, rfl, by decide +kernel, rfl, by decide +kernel, by decide +kernel⟩
theorem dv_first_wrong (fr_enumerate : mg "enumerate" = none) (k_MAX_TRIPS : ∃ t, mg "MAX_TRIPS" = some (.int 24 t)) (f_is_trip : Cal P w K mg base 3 "is_trip" [] c_is_trip) {f : Addr} {cdv : Value} {A : Around} {outer : List Env} {s : Shared} {H : Hp} {E : XK} (hr : Room 3 (A.deeper (envOfC "first_wrong" (defScope (top 25)) s.heap.objs.size f cdv))) :
    TPSs (cxOf CX0 P w K mg base ["thing", "index", "trip"] "first_wrong" (defScope (top 25)) f cdv A outer s H E).nox (defBody (top 25)) rd_first_wrong :=
  s_cons (s_for PassesOwn.never rfl (i_enum fr_enumerate (t_var 0)) (g_tup rfl (g_cons (g_name 1 sc_first_wrong.nd) (g_cons (g_name 2 sc_first_wrong.nd) (g_nil)))) (s_one (s_if (t_pw (w_or (t_cmpT o_ge (t_var 1) (t_gint rfl k_MAX_TRIPS)) (w_or (t_notT (t_tru (t_call f_is_trip (hr.mono (by decide)) (t_cons (t_var 2) (t_nil))))) (w_or1 (t_pw (w_and (t_cmpT o_gt (t_var 1) (t_int)) (w_and1 (t_cmpT o_le (t_ix (units1 hr) (t_var 2) (t_int)) (t_ix (units1 hr) (t_ix (units1 hr) (t_var 0) (t_bin o_sub (t_var 1) (t_int))) (t_int)))))))))) (s_one (s_ret (t_var 1))) (s_nil)))) (s_one (s_ret (t_non)))
theorem ok_first_wrong (fr_enumerate : mg "enumerate" = none) (k_MAX_TRIPS : ∃ t, mg "MAX_TRIPS" = some (.int 24 t)) (f_is_trip : Cal P w K mg base 3 "is_trip" [] c_is_trip) {f : Addr} {fd : FuncData} (F : FunD K "first_wrong" "first_wrong" (defArgs (top 25)) (defBody (top 25)) (defScope (top 25)) [] [] f fd) : FnOk P w K mg base CX0 4 f fd ["thing"] (toSp K mg c_first_wrong) :=
  okT F sc_first_wrong len_first_wrong (fun _ _ _ _ _ _ hr => dv_first_wrong fr_enumerate k_MAX_TRIPS f_is_trip hr) con_first_wrong
theorem sc_by_start : FnScope ["trips", "row", "trip"] ["trips"] (defScope (top 26)) := ⟨rfl, rfl, rfl, by decide +kernel, rfl, by decide +kernel, by decide +kernel⟩
theorem dv_by_start (fr_sorted : mg "sorted" = none) {f : Addr} {cdv : Value} {A : Around} {outer : List Env} {s : Shared} {H : Hp} {E : XK} (hr : Room 0 (A.deeper (envOfC "by_start" (defScope (top 26)) s.heap.objs.size f cdv))) :
    TPSs (cxOf CX0 P w K mg base ["trips", "row", "trip"] "by_start" (defScope (top 26)) f cdv A outer s H E).nox (defBody (top 26)) rd_by_start :=
  s_one (s_ret (t_lc [("row", 1)] rfl sc_by_start.nd (i_lst (t_blt (b_sorted rfl (units64 hr)) fr_sorted (t_cons (t_lc [("trip", 2)] rfl sc_by_start.nd (i_tup (t_var 0)) (by kernel_rfl) (fun _ _ _ _ _ => g_name 2 sc_by_start.nd) (fun _ _ _ _ _ => c_yes) (fun _ _ _ _ _ => t_tup (t_cons (t_ix (units1 hr) (t_var 2) (t_int)) (t_cons (t_ix (units1 hr) (t_var 2) (t_int)) (t_cons (t_var 2) (t_nil)))))) (t_nil)))) (by kernel_rfl) (fun _ _ _ _ _ => g_name 1 sc_by_start.nd) (fun _ _ _ _ _ => c_yes) (fun _ _ _ _ _ => t_ix (units1 hr) (t_var 1) (t_int))))
theorem ok_by_start (fr_sorted : mg "sorted" = none) {f : Addr} {fd : FuncData} (F : FunD K "by_start" "by_start" (defArgs (top 26)) (defBody (top 26)) (defScope (top 26)) [] [] f fd) : FnOk P w K mg base CX0 1 f fd ["trips"] (toSp K mg c_by_start) :=
  okT F sc_by_start len_by_start (fun _ _ _ _ _ _ hr => dv_by_start fr_sorted hr) con_by_start
theorem sc_Line_init : FnScope ["self", "seats", "trips", "index"] ["self", "seats", "trips"] (defScope (L2.inClass (top 29) 2)) := ⟨rfl, rfl, rfl, by decide +kernel, rfl, by decide +kernel, by decide +kernel⟩
theorem dv_Line_init (f_check_seats : Cal P w K mg base 3 "check_seats" [] c_check_seats) (fr_tuple : mg "tuple" = none) (fr_isinstance : mg "isinstance" = none) (f_first_wrong : Cal P w K mg base 4 "first_wrong" [] c_first_wrong) (cl_Line : ClsF K mg "Line") (no_Line : (f : Str) → (h : f ∈ fs_Line := by decide) → NoF K mg "Line" f) (f_by_start : Cal P w K mg base 1 "by_start" [] c_by_start) {f : Addr} {cdv : Value} {A : Around} {outer : List Env} {s : Shared} {H : Hp} {E : XK} (hr : Room 4 (A.deeper (envOfC "Line.__init__" (defScope (L2.inClass (top 29) 2)) s.heap.objs.size f cdv))) :
    TPSs (cxOf CX0 P w K mg base ["self", "seats", "trips", "index"] "Line.__init__" (defScope (L2.inClass (top 29) 2)) f cdv A outer s H E).nox (defBody (L2.inClass (top 29) 2)) rd_Line_init :=
  s_cons (s_expr (t_call f_check_seats (hr.mono (by decide)) (t_cons (t_var 1) (t_nil)))) (s_cons (s_if (t_notT (t_tru (t_blt (b_isTy (n := "tuple") (cs := []) (by decide) (by decide) (by intro c hc; cases hc)) fr_isinstance (t_cons (t_var 2) (t_cons (t_ty fr_tuple) (t_nil)))))) (s_one (s_never)) (s_nil)) (s_cons (s_set 3 sc_Line_init.nd (t_call f_first_wrong (hr.mono (by decide)) (t_cons (t_var 2) (t_nil)))) (s_cons (s_if (t_cmpT o_notN (t_var 3) (t_non)) (s_one (s_never)) (s_nil)) (s_cons (s_fld cl_Line (no_Line "width") (t_var 0) (t_var 1)) (s_cons (s_fld cl_Line (no_Line "booked") (t_var 0) (t_var 2)) (s_one (s_fld cl_Line (no_Line "rows") (t_var 0) (t_call f_by_start (hr.mono (by decide)) (t_cons (t_var 2) (t_nil))))))))))
theorem ok_Line_init (f_check_seats : Cal P w K mg base 3 "check_seats" [] c_check_seats) (fr_tuple : mg "tuple" = none) (fr_isinstance : mg "isinstance" = none) (f_first_wrong : Cal P w K mg base 4 "first_wrong" [] c_first_wrong) (cl_Line : ClsF K mg "Line") (no_Line : (f : Str) → (h : f ∈ fs_Line := by decide) → NoF K mg "Line" f) (f_by_start : Cal P w K mg base 1 "by_start" [] c_by_start) {f : Addr} {fd : FuncData} (F : FunD K "__init__" "Line.__init__" (defArgs (L2.inClass (top 29) 2)) (defBody (L2.inClass (top 29) 2)) (defScope (L2.inClass (top 29) 2)) [V.ref (dflK K (He.ma K (He.ga K "Line") "__init__") 0)] [] f fd) : FnOk P w K mg base CX0 5 f fd ["self", "seats", "trips"] (toSp K mg c_Line_init) :=
  okT F sc_Line_init len_Line_init (fun _ _ _ _ _ _ hr => dv_Line_init f_check_seats fr_tuple fr_isinstance f_first_wrong cl_Line (fun f h => no_Line f h) f_by_start hr) con_Line_init
theorem sc_Line_capacity : FnScope ["self"] ["self"] (defScope (L2.inClass (top 29) 6)) := ⟨rfl, rfl, rfl, by decide +kernel, rfl, by decide +kernel, by decide +kernel⟩
theorem dv_Line_capacity (cl_Line : ClsF K mg "Line") (no_Line : (f : Str) → (h : f ∈ fs_Line := by decide) → NoF K mg "Line" f) {f : Addr} {cdv : Value} {A : Around} {outer : List Env} {s : Shared} {H : Hp} {E : XK} (hr : Room 0 (A.deeper (envOfC "Line.capacity" (defScope (L2.inClass (top 29) 6)) s.heap.objs.size f cdv))) :
    TPSs (cxOf CX0 P w K mg base ["self"] "Line.capacity" (defScope (L2.inClass (top 29) 6)) f cdv A outer s H E).nox (defBody (L2.inClass (top 29) 6)) rd_Line_capacity :=
  s_one (s_ret (t_fld cl_Line (no_Line "width") (t_var 0)))
theorem ok_Line_capacity (cl_Line : ClsF K mg "Line") (no_Line : (f : Str) → (h : f ∈ fs_Line := by decide) → NoF K mg "Line" f) {f : Addr} {fd : FuncData} (F : FunD K "capacity" "Line.capacity" (defArgs (L2.inClass (top 29) 6)) (defBody (L2.inClass (top 29) 6)) (defScope (L2.inClass (top 29) 6)) [] [] f fd) : FnOk P w K mg base CX0 1 f fd ["self"] (toSp K mg c_Line_capacity) :=
  okT F sc_Line_capacity len_Line_capacity (fun _ _ _ _ _ _ hr => dv_Line_capacity cl_Line (fun f h => no_Line f h) hr) con_Line_capacity
theorem sc_Line_trips : FnScope ["self"] ["self"] (defScope (L2.inClass (top 29) 7)) := ⟨rfl, rfl, rfl, by decide +kernel, rfl, by decide +kernel, by decide +kernel⟩
theorem dv_Line_trips (cl_Line : ClsF K mg "Line") (no_Line : (f : Str) → (h : f ∈ fs_Line := by decide) → NoF K mg "Line" f) {f : Addr} {cdv : Value} {A : Around} {outer : List Env} {s : Shared} {H : Hp} {E : XK} (hr : Room 0 (A.deeper (envOfC "Line.trips" (defScope (L2.inClass (top 29) 7)) s.heap.objs.size f cdv))) :
    TPSs (cxOf CX0 P w K mg base ["self"] "Line.trips" (defScope (L2.inClass (top 29) 7)) f cdv A outer s H E).nox (defBody (L2.inClass (top 29) 7)) rd_Line_trips :=
  s_one (s_ret (t_fld cl_Line (no_Line "booked") (t_var 0)))
theorem ok_Line_trips (cl_Line : ClsF K mg "Line") (no_Line : (f : Str) → (h : f ∈ fs_Line := by decide) → NoF K mg "Line" f) {f : Addr} {fd : FuncData} (F : FunD K "trips" "Line.trips" (defArgs (L2.inClass (top 29) 7)) (defBody (L2.inClass (top 29) 7)) (defScope (L2.inClass (top 29) 7)) [] [] f fd) : FnOk P w K mg base CX0 1 f fd ["self"] (toSp K mg c_Line_trips) :=
  okT F sc_Line_trips len_Line_trips (fun _ _ _ _ _ _ hr => dv_Line_trips cl_Line (fun f h => no_Line f h) hr) con_Line_trips
theorem sc_load_of : FnScope ["trips", "station", "trip"] ["trips", "station"] (defScope (top 30)) := ⟨rfl, rfl, rfl, by decide +kernel, rfl, by decide +kernel, by decide +kernel⟩
theorem dv_load_of (f_passes : Cal P w K mg base 1 "passes" [] c_passes) (fr_len : mg "len" = none) {f : Addr} {cdv : Value} {A : Around} {outer : List Env} {s : Shared} {H : Hp} {E : XK} (hr : Room 1 (A.deeper (envOfC "load_of" (defScope (top 30)) s.heap.objs.size f cdv))) :
    TPSs (cxOf CX0 P w K mg base ["trips", "station", "trip"] "load_of" (defScope (top 30)) f cdv A outer s H E).nox (defBody (top 30)) rd_load_of :=
  s_one (s_ret (t_blt b_len fr_len (t_cons (t_lc [("trip", 2)] rfl sc_load_of.nd (i_tup (t_var 0)) (by kernel_rfl) (fun _ _ _ _ _ => g_name 2 sc_load_of.nd) (fun _ _ _ _ _ => c_if (t_tru (t_call f_passes (hr.mono (by decide)) (t_cons (t_var 2) (t_cons (t_var 1) (t_nil)))))) (fun _ _ _ _ _ => t_var 2)) (t_nil))))
theorem ok_load_of (f_passes : Cal P w K mg base 1 "passes" [] c_passes) (fr_len : mg "len" = none) {f : Addr} {fd : FuncData} (F : FunD K "load_of" "load_of" (defArgs (top 30)) (defBody (top 30)) (defScope (top 30)) [] [] f fd) : FnOk P w K mg base CX0 2 f fd ["trips", "station"] (toSp K mg c_load_of) :=
  okT F sc_load_of len_load_of (fun _ _ _ _ _ _ hr => dv_load_of f_passes fr_len hr) con_load_of
theorem sc_Line_load : FnScope ["self", "station"] ["self", "station"] (defScope (L2.inClass (top 29) 14)) := ⟨rfl, rfl, rfl, by decide +kernel, rfl, by decide +kernel, by decide +kernel⟩
theorem dv_Line_load (f_is_from : Cal P w K mg base 2 "is_from" [] c_is_from) (cl_Line : ClsF K mg "Line") (no_Line : (f : Str) → (h : f ∈ fs_Line := by decide) → NoF K mg "Line" f) (f_load_of : Cal P w K mg base 2 "load_of" [] c_load_of) {f : Addr} {cdv : Value} {A : Around} {outer : List Env} {s : Shared} {H : Hp} {E : XK} (hr : Room 2 (A.deeper (envOfC "Line.load" (defScope (L2.inClass (top 29) 14)) s.heap.objs.size f cdv))) :
    TPSs (cxOf CX0 P w K mg base ["self", "station"] "Line.load" (defScope (L2.inClass (top 29) 14)) f cdv A outer s H E).nox (defBody (L2.inClass (top 29) 14)) rd_Line_load :=
  s_cons (s_if (t_notT (t_tru (t_call f_is_from (hr.mono (by decide)) (t_cons (t_var 1) (t_cons (t_int) (t_nil)))))) (s_one (s_never)) (s_nil)) (s_one (s_ret (t_call f_load_of (hr.mono (by decide)) (t_cons (t_fld cl_Line (no_Line "booked") (t_var 0)) (t_cons (t_var 1) (t_nil))))))
theorem ok_Line_load (f_is_from : Cal P w K mg base 2 "is_from" [] c_is_from) (cl_Line : ClsF K mg "Line") (no_Line : (f : Str) → (h : f ∈ fs_Line := by decide) → NoF K mg "Line" f) (f_load_of : Cal P w K mg base 2 "load_of" [] c_load_of) {f : Addr} {fd : FuncData} (F : FunD K "load" "Line.load" (defArgs (L2.inClass (top 29) 14)) (defBody (L2.inClass (top 29) 14)) (defScope (L2.inClass (top 29) 14)) [] [] f fd) : FnOk P w K mg base CX0 3 f fd ["self", "station"] (toSp K mg c_Line_load) :=
  okT F sc_Line_load len_Line_load (fun _ _ _ _ _ _ hr => dv_Line_load f_is_from cl_Line (fun f h => no_Line f h) f_load_of hr) con_Line_load
theorem sc_check_line : FnScope ["thing"] ["thing"] (defScope (top 31)) := ⟨rfl, rfl, rfl, by decide +kernel, rfl, by decide +kernel, by decide +kernel⟩
theorem dv_check_line {a_Line : Addr} (g_Line : mg "Line" = some (.ref a_Line)) (fr_isinstance : mg "isinstance" = none) {A_Line : Addr} (in_Line : InsF K mg "Line" A_Line) {f : Addr} {cdv : Value} {A : Around} {outer : List Env} {s : Shared} {H : Hp} {E : XK} (hr : Room 0 (A.deeper (envOfC "check_line" (defScope (top 31)) s.heap.objs.size f cdv))) :
    TPSs (cxOf CX0 P w K mg base ["thing"] "check_line" (defScope (top 31)) f cdv A outer s H E).nox (defBody (top 31)) rd_check_line :=
  s_one (s_if (t_notT (t_tru (t_blt (b_isOwn (cs := []) in_Line (by intro c hc; cases hc)) fr_isinstance (t_cons (t_var 0) (t_cons (t_glo rfl g_Line) (t_nil)))))) (s_one (s_never)) (s_nil))
theorem ok_check_line {a_Line : Addr} (g_Line : mg "Line" = some (.ref a_Line)) (fr_isinstance : mg "isinstance" = none) {A_Line : Addr} (in_Line : InsF K mg "Line" A_Line) {f : Addr} {fd : FuncData} (F : FunD K "check_line" "check_line" (defArgs (top 31)) (defBody (top 31)) (defScope (top 31)) [] [] f fd) : FnOk P w K mg base CX0 1 f fd ["thing"] (toSp K mg c_check_line) :=
  okT F sc_check_line len_check_line (fun _ _ _ _ _ _ hr => dv_check_line g_Line fr_isinstance in_Line hr) con_check_line
theorem sc_first_overfull : FnScope ["line", "found", "trip"] ["line"] (defScope (top 33)) := ⟨rfl, rfl, rfl, by decide +kernel, rfl, by decide +kernel, by decide +kernel⟩
theorem dv_first_overfull (p_Line_trips : PCal P w K mg base 1 "Line" "trips" c_Line_trips) (me_Line_load : MCal P w K mg base 3 "Line" "load" [] c_Line_load) (p_Line_capacity : PCal P w K mg base 1 "Line" "capacity" c_Line_capacity) (fr_min : mg "min" = none) {f : Addr} {cdv : Value} {A : Around} {outer : List Env} {s : Shared} {H : Hp} {E : XK} (hr : Room 3 (A.deeper (envOfC "first_overfull" (defScope (top 33)) s.heap.objs.size f cdv))) :
    TPSs (cxOf CX0 P w K mg base ["line", "found", "trip"] "first_overfull" (defScope (top 33)) f cdv A outer s H E).nox (defBody (top 33)) rd_first_overfull :=
  s_cons ((by first | exact s_setLc 1 [("trip", 2)] rfl sc_first_overfull.nd (i_tup (t_prop p_Line_trips (hr.mono (by decide)) (t_var 0))) (by kernel_rfl) (fun _ _ _ _ _ => g_name 2 sc_first_overfull.nd) (fun _ _ _ _ _ => c_if (t_cmpT o_gt (t_meth me_Line_load (hr.mono (by decide)) (t_var 0) (t_cons (t_ix (units1 hr) (t_var 2) (t_int)) (t_nil))) (t_prop p_Line_capacity (hr.mono (by decide)) (t_var 0)))) (fun _ _ _ _ _ => t_ix (units1 hr) (t_var 2) (t_int)) rfl | exact s_set 1 sc_first_overfull.nd (t_lc [("trip", 2)] rfl sc_first_overfull.nd (i_tup (t_prop p_Line_trips (hr.mono (by decide)) (t_var 0))) (by kernel_rfl) (fun _ _ _ _ _ => g_name 2 sc_first_overfull.nd) (fun _ _ _ _ _ => c_if (t_cmpT o_gt (t_meth me_Line_load (hr.mono (by decide)) (t_var 0) (t_cons (t_ix (units1 hr) (t_var 2) (t_int)) (t_nil))) (t_prop p_Line_capacity (hr.mono (by decide)) (t_var 0)))) (fun _ _ _ _ _ => t_ix (units1 hr) (t_var 2) (t_int))))) (s_one (s_ret (t_ifE (t_tru (t_var 1)) (t_blt (b_min rfl) fr_min (t_cons (t_var 1) (t_nil))) (t_non))))
theorem ok_first_overfull (p_Line_trips : PCal P w K mg base 1 "Line" "trips" c_Line_trips) (me_Line_load : MCal P w K mg base 3 "Line" "load" [] c_Line_load) (p_Line_capacity : PCal P w K mg base 1 "Line" "capacity" c_Line_capacity) (fr_min : mg "min" = none) {f : Addr} {fd : FuncData} (F : FunD K "first_overfull" "first_overfull" (defArgs (top 33)) (defBody (top 33)) (defScope (top 33)) [] [] f fd) : FnOk P w K mg base CX0 4 f fd ["line"] (toSp K mg c_first_overfull) :=
  okT F sc_first_overfull len_first_overfull (fun _ _ _ _ _ _ hr => dv_first_overfull p_Line_trips me_Line_load p_Line_capacity fr_min hr) con_first_overfull
theorem sc_only_follower : FnScope ["line", "trip", "starts", "first", "near", "others", "end", "other", "name", "start", "stop"] ["line", "trip"] (defScope (top 35)) := ⟨rfl, rfl, rfl, by decide +kernel, rfl, by decide +kernel, by decide +kernel⟩
theorem dv_only_follower (p_Line_trips : PCal P w K mg base 1 "Line" "trips" c_Line_trips) (me_Line_load : MCal P w K mg base 3 "Line" "load" [] c_Line_load) (p_Line_capacity : PCal P w K mg base 1 "Line" "capacity" c_Line_capacity) (fr_min : mg "min" = none) (fr_len : mg "len" = none) {f : Addr} {cdv : Value} {A : Around} {outer : List Env} {s : Shared} {H : Hp} {E : XK} (hr : Room 3 (A.deeper (envOfC "only_follower" (defScope (top 35)) s.heap.objs.size f cdv))) :
    TPSs (cxOf CX0 P w K mg base ["line", "trip", "starts", "first", "near", "others", "end", "other", "name", "start", "stop"] "only_follower" (defScope (top 35)) f cdv A outer s H E).nox (defBody (top 35)) rd_only_follower :=
  s_cons (s_asg (t_tup (t_cons (t_lc [("other", 7)] rfl sc_only_follower.nd (i_tup (t_prop p_Line_trips (hr.mono (by decide)) (t_var 0))) (by kernel_rfl) (fun _ _ _ _ _ => g_name 7 sc_only_follower.nd) (fun _ _ _ _ _ => c_if (t_cmpT (o_ne (units64 hr)) (t_var 7) (t_var 1))) (fun _ _ _ _ _ => t_var 7)) (t_cons (t_ix (units1 hr) (t_var 1) (t_int)) (t_nil)))) (g_tup rfl (g_cons (g_name 5 sc_only_follower.nd) (g_cons (g_name 6 sc_only_follower.nd) (g_nil))))) (s_cons ((by first | exact s_setLc 2 [("other", 7)] rfl sc_only_follower.nd (i_lst (t_var 5)) (by kernel_rfl) (fun _ _ _ _ _ => g_name 7 sc_only_follower.nd) (fun _ _ _ _ _ => c_if (t_cmpT o_ge (t_ix (units1 hr) (t_var 7) (t_int)) (t_var 6))) (fun _ _ _ _ _ => t_ix (units1 hr) (t_var 7) (t_int)) rfl | exact s_set 2 sc_only_follower.nd (t_lc [("other", 7)] rfl sc_only_follower.nd (i_lst (t_var 5)) (by kernel_rfl) (fun _ _ _ _ _ => g_name 7 sc_only_follower.nd) (fun _ _ _ _ _ => c_if (t_cmpT o_ge (t_ix (units1 hr) (t_var 7) (t_int)) (t_var 6))) (fun _ _ _ _ _ => t_ix (units1 hr) (t_var 7) (t_int))))) (s_cons (s_if (t_pw (w_or (t_cmpT o_lt (t_meth me_Line_load (hr.mono (by decide)) (t_var 0) (t_cons (t_bin o_sub (t_var 6) (t_int)) (t_nil))) (t_prop p_Line_capacity (hr.mono (by decide)) (t_var 0))) (w_or1 (t_notT (t_tru (t_var 2)))))) (s_one (s_ret (t_non))) (s_nil)) (s_cons (s_set 3 sc_only_follower.nd (t_blt (b_min rfl) fr_min (t_cons (t_var 2) (t_nil)))) (s_cons ((by first | exact s_setLc 4 [("name", 8), ("start", 9), ("stop", 10)] rfl sc_only_follower.nd (i_lst (t_var 5)) (by kernel_rfl) (fun _ _ _ _ _ => g_tup rfl (g_cons (g_name 8 sc_only_follower.nd) (g_cons (g_name 9 sc_only_follower.nd) (g_cons (g_name 10 sc_only_follower.nd) (g_nil))))) (fun _ _ _ _ _ => c_if (t_pw (w_or (t_chainT o_le o_le (t_var 6) (t_var 9) (t_var 3)) (w_or1 (t_chainT o_le o_le (t_var 6) (t_var 10) (t_var 3)))))) (fun _ _ _ _ _ => t_var 8) rfl | exact s_set 4 sc_only_follower.nd (t_lc [("name", 8), ("start", 9), ("stop", 10)] rfl sc_only_follower.nd (i_lst (t_var 5)) (by kernel_rfl) (fun _ _ _ _ _ => g_tup rfl (g_cons (g_name 8 sc_only_follower.nd) (g_cons (g_name 9 sc_only_follower.nd) (g_cons (g_name 10 sc_only_follower.nd) (g_nil))))) (fun _ _ _ _ _ => c_if (t_pw (w_or (t_chainT o_le o_le (t_var 6) (t_var 9) (t_var 3)) (w_or1 (t_chainT o_le o_le (t_var 6) (t_var 10) (t_var 3)))))) (fun _ _ _ _ _ => t_var 8)))) (s_one (s_ret (t_ifE (t_cmpT (o_eq (units64 hr)) (t_blt b_len fr_len (t_cons (t_var 4) (t_nil))) (t_int)) (t_ix (units1 hr) (t_var 4) (t_int)) (t_non))))))))
theorem ok_only_follower (p_Line_trips : PCal P w K mg base 1 "Line" "trips" c_Line_trips) (me_Line_load : MCal P w K mg base 3 "Line" "load" [] c_Line_load) (p_Line_capacity : PCal P w K mg base 1 "Line" "capacity" c_Line_capacity) (fr_min : mg "min" = none) (fr_len : mg "len" = none) {f : Addr} {fd : FuncData} (F : FunD K "only_follower" "only_follower" (defArgs (top 35)) (defBody (top 35)) (defScope (top 35)) [] [] f fd) : FnOk P w K mg base CX0 4 f fd ["line", "trip"] (toSp K mg c_only_follower) :=
  okT F sc_only_follower len_only_follower (fun _ _ _ _ _ _ hr => dv_only_follower p_Line_trips me_Line_load p_Line_capacity fr_min fr_len hr) con_only_follower
theorem sc_always_follows : FnScope ["line", "stretch", "pairs", "trip", "name", "later"] ["line"] (defScope (top 36)) := ⟨rfl, rfl, rfl, by decide +kernel, rfl, by decide +kernel, by decide +kernel⟩
theorem dv_always_follows (f_check_line : Cal P w K mg base 1 "check_line" [] c_check_line) (f_first_overfull : Cal P w K mg base 4 "first_overfull" [] c_first_overfull) (p_Line_trips : PCal P w K mg base 1 "Line" "trips" c_Line_trips) (f_only_follower : Cal P w K mg base 4 "only_follower" [] c_only_follower) (fr_tuple : mg "tuple" = none) {f : Addr} {cdv : Value} {A : Around} {outer : List Env} {s : Shared} {H : Hp} {E : XK} (hr : Room 4 (A.deeper (envOfC "always_follows" (defScope (top 36)) s.heap.objs.size f cdv))) :
    TPSs (cxOf CX0 P w K mg base ["line", "stretch", "pairs", "trip", "name", "later"] "always_follows" (defScope (top 36)) f cdv A outer s H E).nox (defBody (top 36)) rd_always_follows :=
  s_cons (s_expr (t_call f_check_line (hr.mono (by decide)) (t_cons (t_var 0) (t_nil)))) (s_cons (s_set 1 sc_always_follows.nd (t_call f_first_overfull (hr.mono (by decide)) (t_cons (t_var 0) (t_nil)))) (s_cons (s_if (t_cmpT o_notN (t_var 1) (t_non)) (s_one (s_never)) (s_nil)) (s_cons ((by first | exact s_setLc 2 [("trip", 3)] rfl sc_always_follows.nd (i_tup (t_prop p_Line_trips (hr.mono (by decide)) (t_var 0))) (by kernel_rfl) (fun _ _ _ _ _ => g_name 3 sc_always_follows.nd) (fun _ _ _ _ _ => c_yes) (fun _ _ _ _ _ => t_tup (t_cons (t_ix (units1 hr) (t_var 3) (t_int)) (t_cons (t_call f_only_follower (hr.mono (by decide)) (t_cons (t_var 0) (t_cons (t_var 3) (t_nil)))) (t_nil)))) rfl | exact s_set 2 sc_always_follows.nd (t_lc [("trip", 3)] rfl sc_always_follows.nd (i_tup (t_prop p_Line_trips (hr.mono (by decide)) (t_var 0))) (by kernel_rfl) (fun _ _ _ _ _ => g_name 3 sc_always_follows.nd) (fun _ _ _ _ _ => c_yes) (fun _ _ _ _ _ => t_tup (t_cons (t_ix (units1 hr) (t_var 3) (t_int)) (t_cons (t_call f_only_follower (hr.mono (by decide)) (t_cons (t_var 0) (t_cons (t_var 3) (t_nil)))) (t_nil))))))) (s_one (s_ret (t_bty b_tuple fr_tuple (t_cons (t_lc [("name", 4), ("later", 5)] rfl sc_always_follows.nd (i_lst (t_var 2)) (by kernel_rfl) (fun _ _ _ _ _ => g_tup rfl (g_cons (g_name 4 sc_always_follows.nd) (g_cons (g_name 5 sc_always_follows.nd) (g_nil)))) (fun _ _ _ _ _ => c_if (t_cmpT o_notN (t_var 5) (t_non))) (fun _ _ _ _ _ => t_tup (t_cons (t_var 4) (t_cons (t_var 5) (t_nil))))) (t_nil))))))))
theorem ok_always_follows (f_check_line : Cal P w K mg base 1 "check_line" [] c_check_line) (f_first_overfull : Cal P w K mg base 4 "first_overfull" [] c_first_overfull) (p_Line_trips : PCal P w K mg base 1 "Line" "trips" c_Line_trips) (f_only_follower : Cal P w K mg base 4 "only_follower" [] c_only_follower) (fr_tuple : mg "tuple" = none) {f : Addr} {fd : FuncData} (F : FunD K "always_follows" "always_follows" (defArgs (top 36)) (defBody (top 36)) (defScope (top 36)) [] [] f fd) : FnOk P w K mg base CX0 5 f fd ["line"] (toSp K mg c_always_follows) :=
  okT F sc_always_follows len_always_follows (fun _ _ _ _ _ _ hr => dv_always_follows f_check_line f_first_overfull p_Line_trips f_only_follower fr_tuple hr) con_always_follows
theorem sc_law_cell : FnScope ["script", "k", "state", "cell"] ["script", "k"] (defScope (top 38)) := ⟨rfl, rfl, rfl, by decide +kernel, rfl, by decide +kernel, by decide +kernel⟩
theorem dv_law_cell (fr_len : mg "len" = none) {f : Addr} {cdv : Value} {A : Around} {outer : List Env} {s : Shared} {H : Hp} {E : XK} (hr : Room 0 (A.deeper (envOfC "_law_cell" (defScope (top 38)) s.heap.objs.size f cdv))) :
    TPSs (cxOf CX0 P w K mg base ["script", "k", "state", "cell"] "_law_cell" (defScope (top 38)) f cdv A outer s H E).nox (defBody (top 38)) rd_law_cell :=
  s_cons (s_if (t_cmpT o_lt (t_var 1) (t_blt b_len fr_len (t_cons (t_var 0) (t_nil)))) (s_one (s_ret (t_ix (units1 hr) (t_var 0) (t_var 1)))) (s_nil)) (s_cons (s_set 2 sc_law_cell.nd (t_bin o_mod (t_bin o_mul (t_int) (t_bin o_add (t_bin o_add (t_bin o_mul (t_var 1) (t_var 1)) (t_bin o_mul (t_int) (t_var 1))) (t_int))) (t_int))) (s_cons (s_for PassesOwn.never rfl (i_lst (t_sl (t_var 0) t_no (t_part (t_int)))) (g_name 3 sc_law_cell.nd) (s_one (s_set 2 sc_law_cell.nd (t_bin o_mod (t_bin o_add (t_bin o_mul (t_var 2) (t_int)) (t_var 3)) (t_int))))) (s_one (s_ret (t_var 2)))))
theorem ok_law_cell (fr_len : mg "len" = none) {f : Addr} {fd : FuncData} (F : FunD K "_law_cell" "_law_cell" (defArgs (top 38)) (defBody (top 38)) (defScope (top 38)) [] [] f fd) : FnOk P w K mg base CX0 1 f fd ["script", "k"] (toSp K mg c_law_cell) :=
  okT F sc_law_cell len_law_cell (fun _ _ _ _ _ _ hr => dv_law_cell fr_len hr) con_law_cell
theorem sc_law_pool : FnScope ["cell", "digits"] ["cell"] (defScope (top 39)) := ⟨rfl, rfl, rfl, by decide +kernel, rfl, by decide +kernel, by decide +kernel⟩
theorem dv_law_pool (fr_abs : mg "abs" = none) {f : Addr} {cdv : Value} {A : Around} {outer : List Env} {s : Shared} {H : Hp} {E : XK} (hr : Room 0 (A.deeper (envOfC "_law_pool" (defScope (top 39)) s.heap.objs.size f cdv))) :
    TPSs (cxOf CX0 P w K mg base ["cell", "digits"] "_law_pool" (defScope (top 39)) f cdv A outer s H E).nox (defBody (top 39)) rd_law_pool :=
  s_cons (s_set 1 sc_law_pool.nd (t_int)) (s_cons (s_if (t_pw (w_or (t_cmpT o_lt (t_var 0) (t_int)) (w_or1 (t_cmpT o_ge (t_var 0) (t_bin o_pow (t_int) (t_int)))))) (s_one (s_set 1 sc_law_pool.nd (t_blt b_abs fr_abs (t_cons (t_var 0) (t_nil))))) (s_nil)) (s_one (s_ret (t_lst (t_cons (t_bin o_mod (t_var 0) (t_int)) (t_cons (t_var 1) (t_cons (t_int) (t_nil))))))))
theorem ok_law_pool (fr_abs : mg "abs" = none) {f : Addr} {fd : FuncData} (F : FunD K "_law_pool" "_law_pool" (defArgs (top 39)) (defBody (top 39)) (defScope (top 39)) [] [] f fd) : FnOk P w K mg base CX0 1 f fd ["cell"] (toSp K mg c_law_pool) :=
  okT F sc_law_pool len_law_pool (fun _ _ _ _ _ _ hr => dv_law_pool fr_abs hr) con_law_pool
theorem sc_law_draw : FnScope ["pool", "many", "state", "digit"] ["pool", "many"] (defScope (top 40)) := ⟨rfl, rfl, rfl, by decide +kernel, rfl, by decide +kernel, by decide +kernel⟩
theorem dv_law_draw (fr_divmod : mg "divmod" = none) {f : Addr} {cdv : Value} {A : Around} {outer : List Env} {s : Shared} {H : Hp} {E : XK} (hr : Room 0 (A.deeper (envOfC "_law_draw" (defScope (top 40)) s.heap.objs.size f cdv))) :
    TPSs (cxOf CX0 P w K mg base ["pool", "many", "state", "digit"] "_law_draw" (defScope (top 40)) f cdv A outer s H E).nox (defBody (top 40)) rd_law_draw :=
  s_cons (s_asg (t_bin o_add (t_ix (units1 hr) (t_var 0) (t_int)) (t_int)) (g_sub (units1 hr) (t_var 0) (t_int))) (s_cons (s_set 2 sc_law_draw.nd (t_ix (units1 hr) (t_var 0) (t_int))) (s_cons (s_asg (t_bin o_mod (t_bin o_add (t_bin o_add (t_bin o_mul (t_var 2) (t_bin o_add (t_bin o_mod (t_var 2) (t_int)) (t_int))) (t_bin o_mul (t_int) (t_ix (units1 hr) (t_var 0) (t_int)))) (t_int)) (t_int)) (g_sub (units1 hr) (t_var 0) (t_int))) (s_cons (s_if (t_cmpT o_gt (t_ix (units1 hr) (t_var 0) (t_int)) (t_int)) (s_cons (s_asg (t_blt b_divmod fr_divmod (t_cons (t_ix (units1 hr) (t_var 0) (t_int)) (t_cons (t_var 1) (t_nil)))) (g_tup rfl (g_cons (g_sub (units1 hr) (t_var 0) (t_int)) (g_cons (g_name 3 sc_law_draw.nd) (g_nil))))) (s_one (s_ret (t_var 3)))) (s_nil)) (s_one (s_ret (t_bin o_mod (t_bin o_fdiv (t_ix (units1 hr) (t_var 0) (t_int)) (t_int)) (t_var 1)))))))
theorem ok_law_draw (fr_divmod : mg "divmod" = none) {f : Addr} {fd : FuncData} (F : FunD K "_law_draw" "_law_draw" (defArgs (top 40)) (defBody (top 40)) (defScope (top 40)) [] [] f fd) : FnOk P w K mg base CX0 1 f fd ["pool", "many"] (toSp K mg c_law_draw) :=
  okT F sc_law_draw len_law_draw (fun _ _ _ _ _ _ hr => dv_law_draw fr_divmod hr) con_law_draw
theorem sc_law_words : FnScope ["pool", "many", "letters", "menu", "stem", "at", "way", "begin", "k"] ["pool", "many"] (defScope (top 41)) := ⟨rfl, rfl, rfl, by decide +kernel, rfl, by decide +kernel, by decide +kernel⟩
theorem dv_law_words (f_law_draw : Cal P w K mg base 1 "_law_draw" [] c_law_draw) (fr_range : mg "range" = none) (fr_len : mg "len" = none) {f : Addr} {cdv : Value} {A : Around} {outer : List Env} {s : Shared} {H : Hp} {E : XK} (hr : Room 1 (A.deeper (envOfC "_law_words" (defScope (top 41)) s.heap.objs.size f cdv))) :
    TPSs (cxOf CX0 P w K mg base ["pool", "many", "letters", "menu", "stem", "at", "way", "begin", "k"] "_law_words" (defScope (top 41)) f cdv A outer s H E).nox (defBody (top 41)) rd_law_words :=
  s_cons (s_set 2 sc_law_words.nd (t_str)) (s_cons (s_set 3 sc_law_words.nd (t_lst (t_cons (t_str) (t_cons (t_str) (t_cons (t_str) (t_cons (t_str) (t_cons (t_str) (t_cons (t_str) (t_cons (t_str) (t_cons (t_str) (t_cons (t_str) (t_cons (t_str) (t_cons (t_str) (t_cons (t_str) (t_nil))))))))))))))) (s_cons (s_set 3 sc_law_words.nd (t_bin o_add (t_var 3) (t_lst (t_cons (t_str) (t_cons (t_str) (t_cons (t_str) (t_cons (t_str) (t_cons (t_str) (t_cons (t_str) (t_cons (t_str) (t_cons (t_str) (t_cons (t_str) (t_cons (t_str) (t_cons (t_str) (t_cons (t_str) (t_nil)))))))))))))))) (s_cons (s_asg (t_tup (t_cons (t_call f_law_draw (hr.mono (by decide)) (t_cons (t_var 0) (t_cons (t_int) (t_nil)))) (t_cons (t_call f_law_draw (hr.mono (by decide)) (t_cons (t_var 0) (t_cons (t_int) (t_nil)))) (t_nil)))) (g_tup rfl (g_cons (g_name 6 sc_law_words.nd) (g_cons (g_name 7 sc_law_words.nd) (g_nil))))) (s_cons (s_if (t_cmpT (o_eq (units64 hr)) (t_var 6) (t_int)) (s_one (s_ret (t_lc [("k", 8)] rfl sc_law_words.nd (i_range1 fr_range (t_cons (t_var 1) (t_nil))) (by kernel_rfl) (fun _ _ _ _ _ => g_name 8 sc_law_words.nd) (fun _ _ _ _ _ => c_yes) (fun _ _ _ _ _ => t_ix (units1 hr) (t_var 3) (t_bin o_mod (t_bin o_add (t_var 7) (t_bin o_mul (t_int) (t_var 8))) (t_int)))))) (s_nil)) (s_cons (s_if (t_cmpT (o_eq (units64 hr)) (t_var 6) (t_int)) (s_one (s_ret (t_lc [("k", 8)] rfl sc_law_words.nd (i_range1 fr_range (t_cons (t_var 1) (t_nil))) (by kernel_rfl) (fun _ _ _ _ _ => g_name 8 sc_law_words.nd) (fun _ _ _ _ _ => c_yes) (fun _ _ _ _ _ => t_bin o_mul (t_ix (units1 hr) (t_var 2) (t_bin o_mod (t_bin o_add (t_var 7) (t_bin o_mul (t_int) (t_var 8))) (t_int))) (t_bin o_add (t_int) (t_bin o_mod (t_var 8) (t_int))))))) (s_nil)) (s_cons (s_set 4 sc_law_words.nd (t_mt PySem.F.plainAttrs_str PySem.F.slot_str_join PySem.F.type_str_join m_join (t_str) (t_cons (t_lc [("k", 8)] rfl sc_law_words.nd (i_range1 fr_range (t_cons (t_call f_law_draw (hr.mono (by decide)) (t_cons (t_var 0) (t_cons (t_int) (t_nil)))) (t_nil))) (by kernel_rfl) (fun _ _ _ _ _ => g_name 8 sc_law_words.nd) (fun _ _ _ _ _ => c_yes) (fun _ _ _ _ _ => t_ix (units1 hr) (t_var 2) (t_call f_law_draw (hr.mono (by decide)) (t_cons (t_var 0) (t_cons (t_int) (t_nil)))))) (t_nil)))) (s_cons (s_set 5 sc_law_words.nd (t_call f_law_draw (hr.mono (by decide)) (t_cons (t_var 0) (t_cons (t_bin o_add (t_blt b_len fr_len (t_cons (t_var 4) (t_nil))) (t_int)) (t_nil))))) (s_one (s_ret (t_lc [("k", 8)] rfl sc_law_words.nd (i_range1 fr_range (t_cons (t_var 1) (t_nil))) (by kernel_rfl) (fun _ _ _ _ _ => g_name 8 sc_law_words.nd) (fun _ _ _ _ _ => c_yes) (fun _ _ _ _ _ => t_bin o_add (t_bin o_add (t_sl (t_var 4) t_no (t_part (t_var 5))) (t_ix (units1 hr) (t_var 2) (t_bin o_mod (t_bin o_add (t_var 7) (t_bin o_mul (t_int) (t_var 8))) (t_int)))) (t_sl (t_var 4) (t_part (t_var 5)) t_no))))))))))))
theorem ok_law_words (f_law_draw : Cal P w K mg base 1 "_law_draw" [] c_law_draw) (fr_range : mg "range" = none) (fr_len : mg "len" = none) {f : Addr} {fd : FuncData} (F : FunD K "_law_words" "_law_words" (defArgs (top 41)) (defBody (top 41)) (defScope (top 41)) [] [] f fd) : FnOk P w K mg base CX0 2 f fd ["pool", "many"] (toSp K mg c_law_words) :=
  okT F sc_law_words len_law_words (fun _ _ _ _ _ _ hr => dv_law_words f_law_draw fr_range fr_len hr) con_law_words
theorem sc_law_far : FnScope ["pool", "high", "k", "found", "here", "way"] ["pool", "high"] (defScope (top 42)) := ⟨rfl, rfl, rfl, by decide +kernel, rfl, by decide +kernel, by decide +kernel⟩
theorem dv_law_far (f_law_draw : Cal P w K mg base 1 "_law_draw" [] c_law_draw) (fr_range : mg "range" = none) {f : Addr} {cdv : Value} {A : Around} {outer : List Env} {s : Shared} {H : Hp} {E : XK} (hr : Room 1 (A.deeper (envOfC "_law_far" (defScope (top 42)) s.heap.objs.size f cdv))) :
    TPSs (cxOf CX0 P w K mg base ["pool", "high", "k", "found", "here", "way"] "_law_far" (defScope (top 42)) f cdv A outer s H E).nox (defBody (top 42)) rd_law_far :=
  s_cons (s_par3 3 4 5 rfl sc_law_far.nd (t_cons (t_lst (t_nil)) (t_cons (t_call f_law_draw (hr.mono (by decide)) (t_cons (t_var 0) (t_cons (t_int) (t_nil)))) (t_cons (t_call f_law_draw (hr.mono (by decide)) (t_cons (t_var 0) (t_cons (t_int) (t_nil)))) (t_nil))))) (s_cons (s_for PassesOwn.never rfl (i_range1 fr_range (t_cons (t_bin o_add (t_var 1) (t_int)) (t_nil))) (g_name 2 sc_law_far.nd) (s_cons (s_expr (t_mt PySem.F.plainAttrs_list PySem.F.slot_list_append PySem.F.type_list_append m_append (t_var 3) (t_cons (t_ifE (t_cmpT o_gt (t_var 5) (t_int)) (t_var 2) (t_var 4)) (t_nil)))) (s_one (s_set 4 sc_law_far.nd (t_bin o_add (t_bin o_add (t_var 4) (t_int)) (t_ix (units1 hr) (t_lst (t_cons (t_int) (t_cons (t_call f_law_draw (hr.mono (by decide)) (t_cons (t_var 0) (t_cons (t_int) (t_nil)))) (t_cons (t_bin o_pow (t_int) (t_int)) (t_nil))))) (t_call f_law_draw (hr.mono (by decide)) (t_cons (t_var 0) (t_cons (t_int) (t_nil)))))))))) (s_one (s_ret (t_var 3))))
theorem ok_law_far (f_law_draw : Cal P w K mg base 1 "_law_draw" [] c_law_draw) (fr_range : mg "range" = none) {f : Addr} {fd : FuncData} (F : FunD K "_law_far" "_law_far" (defArgs (top 42)) (defBody (top 42)) (defScope (top 42)) [] [] f fd) : FnOk P w K mg base CX0 2 f fd ["pool", "high"] (toSp K mg c_law_far) :=
  okT F sc_law_far len_law_far (fun _ _ _ _ _ _ hr => dv_law_far f_law_draw fr_range hr) con_law_far
theorem sc_law_rides : FnScope ["pool", "words", "high", "word", "places", "found", "last", "way", "begin"] ["pool", "words", "high"] (defScope (top 43)) := ⟨rfl, rfl, rfl, by decide +kernel, rfl, by decide +kernel, by decide +kernel⟩
theorem dv_law_rides (f_law_far : Cal P w K mg base 2 "_law_far" [] c_law_far) (f_law_draw : Cal P w K mg base 1 "_law_draw" [] c_law_draw) (fr_min : mg "min" = none) (fr_sorted : mg "sorted" = none) (fr_tuple : mg "tuple" = none) {f : Addr} {cdv : Value} {A : Around} {outer : List Env} {s : Shared} {H : Hp} {E : XK} (hr : Room 2 (A.deeper (envOfC "_law_rides" (defScope (top 43)) s.heap.objs.size f cdv))) :
    TPSs (cxOf CX0 P w K mg base ["pool", "words", "high", "word", "places", "found", "last", "way", "begin"] "_law_rides" (defScope (top 43)) f cdv A outer s H E).nox (defBody (top 43)) rd_law_rides :=
  s_cons (s_par3 4 5 6 rfl sc_law_rides.nd (t_cons (t_call f_law_far (hr.mono (by decide)) (t_cons (t_var 0) (t_cons (t_var 2) (t_nil)))) (t_cons (t_lst (t_nil)) (t_cons (t_int) (t_nil))))) (s_cons (s_for PassesOwn.never rfl (i_lst (t_var 1)) (g_name 3 sc_law_rides.nd) (s_cons (s_set 7 sc_law_rides.nd (t_call f_law_draw (hr.mono (by decide)) (t_cons (t_var 0) (t_cons (t_int) (t_nil))))) (s_cons (s_set 8 sc_law_rides.nd (t_ifE (t_pw (w_and (t_cmpT (o_eq (units64 hr)) (t_var 7) (t_int)) (w_and1 (t_cmpT o_lt (t_var 6) (t_var 2))))) (t_var 6) (t_call f_law_draw (hr.mono (by decide)) (t_cons (t_var 0) (t_cons (t_var 2) (t_nil)))))) (s_cons (s_set 6 sc_law_rides.nd (t_bin o_add (t_bin o_add (t_var 8) (t_int)) (t_call f_law_draw (hr.mono (by decide)) (t_cons (t_var 0) (t_cons (t_ifE (t_cmpT o_gt (t_bin o_sub (t_var 2) (t_var 8)) (t_int)) (t_ix (units1 hr) (t_lst (t_cons (t_int) (t_cons (t_int) (t_cons (t_bin o_sub (t_var 2) (t_var 8)) (t_cons (t_bin o_sub (t_var 2) (t_var 8)) (t_nil)))))) (t_var 7)) (t_int)) (t_nil)))))) (s_cons (s_set 6 sc_law_rides.nd (t_blt (b_min rfl) fr_min (t_cons (t_var 6) (t_cons (t_var 2) (t_nil))))) (s_one (s_expr (t_mt PySem.F.plainAttrs_list PySem.F.slot_list_append PySem.F.type_list_append m_append (t_var 5) (t_cons (t_tup (t_cons (t_var 3) (t_cons (t_ix (units1 hr) (t_var 4) (t_var 8)) (t_cons (t_ix (units1 hr) (t_var 4) (t_var 6)) (t_nil))))) (t_nil)))))))))) (s_one (s_ret (t_bty b_tuple fr_tuple (t_cons (t_blt (b_sorted rfl (units64 hr)) fr_sorted (t_cons (t_var 5) (t_nil))) (t_nil))))))
theorem ok_law_rides (f_law_far : Cal P w K mg base 2 "_law_far" [] c_law_far) (f_law_draw : Cal P w K mg base 1 "_law_draw" [] c_law_draw) (fr_min : mg "min" = none) (fr_sorted : mg "sorted" = none) (fr_tuple : mg "tuple" = none) {f : Addr} {fd : FuncData} (F : FunD K "_law_rides" "_law_rides" (defArgs (top 43)) (defBody (top 43)) (defScope (top 43)) [] [] f fd) : FnOk P w K mg base CX0 3 f fd ["pool", "words", "high"] (toSp K mg c_law_rides) :=
  okT F sc_law_rides len_law_rides (fun _ _ _ _ _ _ hr => dv_law_rides f_law_far f_law_draw fr_min fr_sorted fr_tuple hr) con_law_rides
theorem sc_law_meet : FnScope ["one_ride", "more_ride"] ["one_ride", "more_ride"] (defScope (top 44)) := ⟨rfl, rfl, rfl, by decide +kernel, rfl, by decide +kernel, by decide +kernel⟩
theorem dv_law_meet  {f : Addr} {cdv : Value} {A : Around} {outer : List Env} {s : Shared} {H : Hp} {E : XK} (hr : Room 0 (A.deeper (envOfC "_law_meet" (defScope (top 44)) s.heap.objs.size f cdv))) :
    TPSs (cxOf CX0 P w K mg base ["one_ride", "more_ride"] "_law_meet" (defScope (top 44)) f cdv A outer s H E).nox (defBody (top 44)) rd_law_meet :=
  s_one (s_ret (t_and (t_cmp o_lt (t_ix (units1 hr) (t_var 0) (t_int)) (t_ix (units1 hr) (t_var 1) (t_int))) (t_one (t_cmp o_lt (t_ix (units1 hr) (t_var 1) (t_int)) (t_ix (units1 hr) (t_var 0) (t_int))))))
theorem ok_law_meet  {f : Addr} {fd : FuncData} (F : FunD K "_law_meet" "_law_meet" (defArgs (top 44)) (defBody (top 44)) (defScope (top 44)) [] [] f fd) : FnOk P w K mg base CX0 1 f fd ["one_ride", "more_ride"] (toSp K mg c_law_meet) :=
  okT F sc_law_meet len_law_meet (fun _ _ _ _ _ _ hr => dv_law_meet  hr) con_law_meet
theorem sc_law_by_start : FnScope ["rides", "rows", "row", "ride"] ["rides"] (defScope (top 45)) := ⟨rfl, rfl, rfl, by decide +kernel, rfl, by decide +kernel, by decide +kernel⟩
theorem dv_law_by_start (fr_sorted : mg "sorted" = none) {f : Addr} {cdv : Value} {A : Around} {outer : List Env} {s : Shared} {H : Hp} {E : XK} (hr : Room 0 (A.deeper (envOfC "_law_by_start" (defScope (top 45)) s.heap.objs.size f cdv))) :
    TPSs (cxOf CX0 P w K mg base ["rides", "rows", "row", "ride"] "_law_by_start" (defScope (top 45)) f cdv A outer s H E).nox (defBody (top 45)) rd_law_by_start :=
  s_cons (s_set 1 sc_law_by_start.nd (t_blt (b_sorted rfl (units64 hr)) fr_sorted (t_cons (t_lc [("ride", 3)] rfl sc_law_by_start.nd (i_tup (t_var 0)) (by kernel_rfl) (fun _ _ _ _ _ => g_name 3 sc_law_by_start.nd) (fun _ _ _ _ _ => c_yes) (fun _ _ _ _ _ => t_tup (t_cons (t_ix (units1 hr) (t_var 3) (t_int)) (t_cons (t_ix (units1 hr) (t_var 3) (t_int)) (t_cons (t_var 3) (t_nil)))))) (t_nil)))) (s_one (s_ret (t_lc [("row", 2)] rfl sc_law_by_start.nd (i_lst (t_var 1)) (by kernel_rfl) (fun _ _ _ _ _ => g_name 2 sc_law_by_start.nd) (fun _ _ _ _ _ => c_yes) (fun _ _ _ _ _ => t_ix (units1 hr) (t_var 2) (t_int)))))
theorem ok_law_by_start (fr_sorted : mg "sorted" = none) {f : Addr} {fd : FuncData} (F : FunD K "_law_by_start" "_law_by_start" (defArgs (top 45)) (defBody (top 45)) (defScope (top 45)) [] [] f fd) : FnOk P w K mg base CX0 1 f fd ["rides"] (toSp K mg c_law_by_start) :=
  okT F sc_law_by_start len_law_by_start (fun _ _ _ _ _ _ hr => dv_law_by_start fr_sorted hr) con_law_by_start
theorem sc_law_load : FnScope ["rides", "place", "ride"] ["rides", "place"] (defScope (top 46)) := ⟨rfl, rfl, rfl, by decide +kernel, rfl, by decide +kernel, by decide +kernel⟩
theorem dv_law_load (fr_len : mg "len" = none) {f : Addr} {cdv : Value} {A : Around} {outer : List Env} {s : Shared} {H : Hp} {E : XK} (hr : Room 0 (A.deeper (envOfC "_law_load" (defScope (top 46)) s.heap.objs.size f cdv))) :
    TPSs (cxOf CX0 P w K mg base ["rides", "place", "ride"] "_law_load" (defScope (top 46)) f cdv A outer s H E).nox (defBody (top 46)) rd_law_load :=
  s_one (s_ret (t_blt b_len fr_len (t_cons (t_lc [("ride", 2)] rfl sc_law_load.nd (i_tup (t_var 0)) (by kernel_rfl) (fun _ _ _ _ _ => g_name 2 sc_law_load.nd) (fun _ _ _ _ _ => c_if (t_chainT o_le o_lt (t_ix (units1 hr) (t_var 2) (t_int)) (t_var 1) (t_ix (units1 hr) (t_var 2) (t_int)))) (fun _ _ _ _ _ => t_var 2)) (t_nil))))
theorem ok_law_load (fr_len : mg "len" = none) {f : Addr} {fd : FuncData} (F : FunD K "_law_load" "_law_load" (defArgs (top 46)) (defBody (top 46)) (defScope (top 46)) [] [] f fd) : FnOk P w K mg base CX0 1 f fd ["rides", "place"] (toSp K mg c_law_load) :=
  okT F sc_law_load len_law_load (fun _ _ _ _ _ _ hr => dv_law_load fr_len hr) con_law_load
theorem sc_law_peak : FnScope ["rides", "ride"] ["rides"] (defScope (top 47)) := ⟨rfl, rfl, rfl, by decide +kernel, rfl, by decide +kernel, by decide +kernel⟩
theorem dv_law_peak (f_law_load : Cal P w K mg base 1 "_law_load" [] c_law_load) (fr_max : mg "max" = none) {f : Addr} {cdv : Value} {A : Around} {outer : List Env} {s : Shared} {H : Hp} {E : XK} (hr : Room 1 (A.deeper (envOfC "_law_peak" (defScope (top 47)) s.heap.objs.size f cdv))) :
    TPSs (cxOf CX0 P w K mg base ["rides", "ride"] "_law_peak" (defScope (top 47)) f cdv A outer s H E).nox (defBody (top 47)) rd_law_peak :=
  s_one (s_ret (t_blt (b_max rfl) fr_max (t_cons (t_bin o_add (t_lc [("ride", 1)] rfl sc_law_peak.nd (i_tup (t_var 0)) (by kernel_rfl) (fun _ _ _ _ _ => g_name 1 sc_law_peak.nd) (fun _ _ _ _ _ => c_yes) (fun _ _ _ _ _ => t_call f_law_load (hr.mono (by decide)) (t_cons (t_var 0) (t_cons (t_ix (units1 hr) (t_var 1) (t_int)) (t_nil))))) (t_lst (t_cons (t_int) (t_nil)))) (t_nil))))
theorem ok_law_peak (f_law_load : Cal P w K mg base 1 "_law_load" [] c_law_load) (fr_max : mg "max" = none) {f : Addr} {fd : FuncData} (F : FunD K "_law_peak" "_law_peak" (defArgs (top 47)) (defBody (top 47)) (defScope (top 47)) [] [] f fd) : FnOk P w K mg base CX0 2 f fd ["rides"] (toSp K mg c_law_peak) :=
  okT F sc_law_peak len_law_peak (fun _ _ _ _ _ _ hr => dv_law_peak f_law_load fr_max hr) con_law_peak
theorem sc_law_choices : FnScope ["width", "rides", "held", "ride", "taken", "each", "spot"] ["width", "rides", "held", "ride"] (defScope (top 48)) := ⟨rfl, rfl, rfl, by decide +kernel, rfl, by decide +kernel, by decide +kernel⟩
theorem dv_law_choices (f_law_meet : Cal P w K mg base 1 "_law_meet" [] c_law_meet) (fr_range : mg "range" = none) {f : Addr} {cdv : Value} {A : Around} {outer : List Env} {s : Shared} {H : Hp} {E : XK} (hr : Room 1 (A.deeper (envOfC "_law_choices" (defScope (top 48)) s.heap.objs.size f cdv))) :
    TPSs (cxOf CX0 P w K mg base ["width", "rides", "held", "ride", "taken", "each", "spot"] "_law_choices" (defScope (top 48)) f cdv A outer s H E).nox (defBody (top 48)) rd_law_choices :=
  s_cons ((by first | exact s_setLc 4 [("each", 5)] rfl sc_law_choices.nd (i_tup (t_var 1)) (by kernel_rfl) (fun _ _ _ _ _ => g_name 5 sc_law_choices.nd) (fun _ _ _ _ _ => c_if (t_pw (w_and (t_cmpT (o_in (units65 hr)) (t_ix (units1 hr) (t_var 5) (t_int)) (t_var 2)) (w_and1 (t_tru (t_call f_law_meet (hr.mono (by decide)) (t_cons (t_var 5) (t_cons (t_var 3) (t_nil))))))))) (fun _ _ _ _ _ => t_ix (units1 hr) (t_var 2) (t_ix (units1 hr) (t_var 5) (t_int))) rfl | exact s_set 4 sc_law_choices.nd (t_lc [("each", 5)] rfl sc_law_choices.nd (i_tup (t_var 1)) (by kernel_rfl) (fun _ _ _ _ _ => g_name 5 sc_law_choices.nd) (fun _ _ _ _ _ => c_if (t_pw (w_and (t_cmpT (o_in (units65 hr)) (t_ix (units1 hr) (t_var 5) (t_int)) (t_var 2)) (w_and1 (t_tru (t_call f_law_meet (hr.mono (by decide)) (t_cons (t_var 5) (t_cons (t_var 3) (t_nil))))))))) (fun _ _ _ _ _ => t_ix (units1 hr) (t_var 2) (t_ix (units1 hr) (t_var 5) (t_int)))))) (s_one (s_ret (t_lc [("spot", 6)] rfl sc_law_choices.nd (i_range2 fr_range (t_cons (t_int) (t_cons (t_bin o_add (t_var 0) (t_int)) (t_nil)))) (by kernel_rfl) (fun _ _ _ _ _ => g_name 6 sc_law_choices.nd) (fun _ _ _ _ _ => c_if (t_cmpT (o_notIn (units65 hr)) (t_var 6) (t_var 4))) (fun _ _ _ _ _ => t_var 6))))
theorem ok_law_choices (f_law_meet : Cal P w K mg base 1 "_law_meet" [] c_law_meet) (fr_range : mg "range" = none) {f : Addr} {fd : FuncData} (F : FunD K "_law_choices" "_law_choices" (defArgs (top 48)) (defBody (top 48)) (defScope (top 48)) [] [] f fd) : FnOk P w K mg base CX0 2 f fd ["width", "rides", "held", "ride"] (toSp K mg c_law_choices) :=
  okT F sc_law_choices len_law_choices (fun _ _ _ _ _ _ hr => dv_law_choices f_law_meet fr_range hr) con_law_choices
theorem sc_law_flat : FnScope ["held", "word"] ["held"] (defScope (top 49)) := ⟨rfl, rfl, rfl, by decide +kernel, rfl, by decide +kernel, by decide +kernel⟩
theorem dv_law_flat (fr_sorted : mg "sorted" = none) (fr_tuple : mg "tuple" = none) {f : Addr} {cdv : Value} {A : Around} {outer : List Env} {s : Shared} {H : Hp} {E : XK} (hr : Room 0 (A.deeper (envOfC "_law_flat" (defScope (top 49)) s.heap.objs.size f cdv))) :
    TPSs (cxOf CX0 P w K mg base ["held", "word"] "_law_flat" (defScope (top 49)) f cdv A outer s H E).nox (defBody (top 49)) rd_law_flat :=
  s_one (s_ret (t_bty b_tuple fr_tuple (t_cons (t_lc [("word", 1)] rfl sc_law_flat.nd (i_lst (t_blt (b_sorted rfl (units64 hr)) fr_sorted (t_cons (t_var 0) (t_nil)))) (by kernel_rfl) (fun _ _ _ _ _ => g_name 1 sc_law_flat.nd) (fun _ _ _ _ _ => c_yes) (fun _ _ _ _ _ => t_tup (t_cons (t_var 1) (t_cons (t_ix (units1 hr) (t_var 0) (t_var 1)) (t_nil))))) (t_nil))))
theorem ok_law_flat (fr_sorted : mg "sorted" = none) (fr_tuple : mg "tuple" = none) {f : Addr} {fd : FuncData} (F : FunD K "_law_flat" "_law_flat" (defArgs (top 49)) (defBody (top 49)) (defScope (top 49)) [] [] f fd) : FnOk P w K mg base CX0 1 f fd ["held"] (toSp K mg c_law_flat) :=
  okT F sc_law_flat len_law_flat (fun _ _ _ _ _ _ hr => dv_law_flat fr_sorted fr_tuple hr) con_law_flat
theorem sc_law_all_plans : FnScope ["width", "rides", "layer", "ride", "later", "held", "spot", "after"] ["width", "rides"] (defScope (top 50)) := ⟨rfl, rfl, rfl, by decide +kernel, rfl, by decide +kernel, by decide +kernel⟩
theorem dv_law_all_plans (f_law_by_start : Cal P w K mg base 1 "_law_by_start" [] c_law_by_start) (f_law_choices : Cal P w K mg base 2 "_law_choices" [] c_law_choices) (fr_dict : mg "dict" = none) (f_law_flat : Cal P w K mg base 1 "_law_flat" [] c_law_flat) {f : Addr} {cdv : Value} {A : Around} {outer : List Env} {s : Shared} {H : Hp} {E : XK} (hr : Room 2 (A.deeper (envOfC "_law_all_plans" (defScope (top 50)) s.heap.objs.size f cdv))) :
    TPSs (cxOf CX0 P w K mg base ["width", "rides", "layer", "ride", "later", "held", "spot", "after"] "_law_all_plans" (defScope (top 50)) f cdv A outer s H E).nox (defBody (top 50)) rd_law_all_plans :=
  s_cons (s_set 2 sc_law_all_plans.nd (t_lst (t_cons (t_dnew) (t_nil)))) (s_cons (s_for PassesOwn.never rfl (i_lst (t_call f_law_by_start (hr.mono (by decide)) (t_cons (t_var 1) (t_nil)))) (g_name 3 sc_law_all_plans.nd) (s_cons (s_set 4 sc_law_all_plans.nd (t_lst (t_nil))) (s_cons (s_for PassesOwn.never rfl (i_lst (t_var 2)) (g_name 5 sc_law_all_plans.nd) (s_one (s_for PassesOwn.never rfl (i_lst (t_call f_law_choices (hr.mono (by decide)) (t_cons (t_var 0) (t_cons (t_var 1) (t_cons (t_var 5) (t_cons (t_var 3) (t_nil))))))) (g_name 6 sc_law_all_plans.nd) (s_cons (s_set 7 sc_law_all_plans.nd (t_bty b_dict fr_dict (t_cons (t_var 5) (t_nil)))) (s_cons (s_asg (t_var 6) (g_sub (units1 hr) (t_var 7) (t_ix (units1 hr) (t_var 3) (t_int)))) (s_one (s_expr (t_mt PySem.F.plainAttrs_list PySem.F.slot_list_append PySem.F.type_list_append m_append (t_var 4) (t_cons (t_var 7) (t_nil)))))))))) (s_one (s_set 2 sc_law_all_plans.nd (t_var 4)))))) (s_one (s_ret (t_lc [("held", 5)] rfl sc_law_all_plans.nd (i_lst (t_var 2)) (by kernel_rfl) (fun _ _ _ _ _ => g_name 5 sc_law_all_plans.nd) (fun _ _ _ _ _ => c_yes) (fun _ _ _ _ _ => t_call f_law_flat (hr.mono (by decide)) (t_cons (t_var 5) (t_nil)))))))
theorem ok_law_all_plans (f_law_by_start : Cal P w K mg base 1 "_law_by_start" [] c_law_by_start) (f_law_choices : Cal P w K mg base 2 "_law_choices" [] c_law_choices) (fr_dict : mg "dict" = none) (f_law_flat : Cal P w K mg base 1 "_law_flat" [] c_law_flat) {f : Addr} {fd : FuncData} (F : FunD K "_law_all_plans" "_law_all_plans" (defArgs (top 50)) (defBody (top 50)) (defScope (top 50)) [] [] f fd) : FnOk P w K mg base CX0 3 f fd ["width", "rides"] (toSp K mg c_law_all_plans) :=
  okT F sc_law_all_plans len_law_all_plans (fun _ _ _ _ _ _ hr => dv_law_all_plans f_law_by_start f_law_choices fr_dict f_law_flat hr) con_law_all_plans
theorem sc_law_held : FnScope ["spots", "held", "word", "spot"] ["spots"] (defScope (top 51)) := ⟨rfl, rfl, rfl, by decide +kernel, rfl, by decide +kernel, by decide +kernel⟩
theorem dv_law_held  {f : Addr} {cdv : Value} {A : Around} {outer : List Env} {s : Shared} {H : Hp} {E : XK} (hr : Room 0 (A.deeper (envOfC "_law_held" (defScope (top 51)) s.heap.objs.size f cdv))) :
    TPSs (cxOf CX0 P w K mg base ["spots", "held", "word", "spot"] "_law_held" (defScope (top 51)) f cdv A outer s H E).nox (defBody (top 51)) rd_law_held :=
  s_cons (s_set 1 sc_law_held.nd (t_dnew)) (s_cons (s_for PassesOwn.never rfl (i_tup (t_var 0)) (g_tup rfl (g_cons (g_name 2 sc_law_held.nd) (g_cons (g_name 3 sc_law_held.nd) (g_nil)))) (s_one (s_asg (t_var 3) (g_sub (units1 hr) (t_var 1) (t_var 2))))) (s_one (s_ret (t_var 1))))
theorem ok_law_held  {f : Addr} {fd : FuncData} (F : FunD K "_law_held" "_law_held" (defArgs (top 51)) (defBody (top 51)) (defScope (top 51)) [] [] f fd) : FnOk P w K mg base CX0 1 f fd ["spots"] (toSp K mg c_law_held) :=
  okT F sc_law_held len_law_held (fun _ _ _ _ _ _ hr => dv_law_held  hr) con_law_held
theorem sc_law_small : FnScope ["pool", "words"] ["pool"] (defScope (top 52)) := ⟨rfl, rfl, rfl, by decide +kernel, rfl, by decide +kernel, by decide +kernel⟩
theorem dv_law_small (f_law_words : Cal P w K mg base 2 "_law_words" [] c_law_words) (f_law_draw : Cal P w K mg base 1 "_law_draw" [] c_law_draw) (f_law_rides : Cal P w K mg base 3 "_law_rides" [] c_law_rides) {f : Addr} {cdv : Value} {A : Around} {outer : List Env} {s : Shared} {H : Hp} {E : XK} (hr : Room 3 (A.deeper (envOfC "_law_small" (defScope (top 52)) s.heap.objs.size f cdv))) :
    TPSs (cxOf CX0 P w K mg base ["pool", "words"] "_law_small" (defScope (top 52)) f cdv A outer s H E).nox (defBody (top 52)) rd_law_small :=
  s_cons (s_set 1 sc_law_small.nd (t_sl (t_call f_law_words (hr.mono (by decide)) (t_cons (t_var 0) (t_cons (t_int) (t_nil)))) t_no (t_part (t_call f_law_draw (hr.mono (by decide)) (t_cons (t_var 0) (t_cons (t_int) (t_nil))))))) (s_one (s_ret (t_tup (t_cons (t_bin o_add (t_int) (t_call f_law_draw (hr.mono (by decide)) (t_cons (t_var 0) (t_cons (t_int) (t_nil))))) (t_cons (t_call f_law_rides (hr.mono (by decide)) (t_cons (t_var 0) (t_cons (t_var 1) (t_cons (t_bin o_add (t_int) (t_call f_law_draw (hr.mono (by decide)) (t_cons (t_var 0) (t_cons (t_int) (t_nil))))) (t_nil))))) (t_nil))))))
theorem ok_law_small (f_law_words : Cal P w K mg base 2 "_law_words" [] c_law_words) (f_law_draw : Cal P w K mg base 1 "_law_draw" [] c_law_draw) (f_law_rides : Cal P w K mg base 3 "_law_rides" [] c_law_rides) {f : Addr} {fd : FuncData} (F : FunD K "_law_small" "_law_small" (defArgs (top 52)) (defBody (top 52)) (defScope (top 52)) [] [] f fd) : FnOk P w K mg base CX0 4 f fd ["pool"] (toSp K mg c_law_small) :=
  okT F sc_law_small len_law_small (fun _ _ _ _ _ _ hr => dv_law_small f_law_words f_law_draw f_law_rides hr) con_law_small
theorem sc_law_next_pairs : FnScope ["width", "rides", "spots", "spot", "held", "found", "row", "ride"] ["width", "rides", "spots"] (defScope (top 53)) := ⟨rfl, rfl, rfl, by decide +kernel, rfl, by decide +kernel, by decide +kernel⟩
theorem dv_law_next_pairs (f_law_held : Cal P w K mg base 1 "_law_held" [] c_law_held) (fr_range : mg "range" = none) (f_law_by_start : Cal P w K mg base 1 "_law_by_start" [] c_law_by_start) (fr_list : mg "list" = none) (fr_zip : mg "zip" = none) {f : Addr} {cdv : Value} {A : Around} {outer : List Env} {s : Shared} {H : Hp} {E : XK} (hr : Room 1 (A.deeper (envOfC "_law_next_pairs" (defScope (top 53)) s.heap.objs.size f cdv))) :
    TPSs (cxOf CX0 P w K mg base ["width", "rides", "spots", "spot", "held", "found", "row", "ride"] "_law_next_pairs" (defScope (top 53)) f cdv A outer s H E).nox (defBody (top 53)) rd_law_next_pairs :=
  s_cons (s_asg (t_tup (t_cons (t_call f_law_held (hr.mono (by decide)) (t_cons (t_var 2) (t_nil))) (t_cons (t_lst (t_nil)) (t_nil)))) (g_tup rfl (g_cons (g_name 4 sc_law_next_pairs.nd) (g_cons (g_name 5 sc_law_next_pairs.nd) (g_nil))))) (s_cons (s_for PassesOwn.never rfl (i_range2 fr_range (t_cons (t_int) (t_cons (t_bin o_add (t_var 0) (t_int)) (t_nil)))) (g_name 3 sc_law_next_pairs.nd) (s_cons ((by first | exact s_setLc 6 [("ride", 7)] rfl sc_law_next_pairs.nd (i_lst (t_call f_law_by_start (hr.mono (by decide)) (t_cons (t_var 1) (t_nil)))) (by kernel_rfl) (fun _ _ _ _ _ => g_name 7 sc_law_next_pairs.nd) (fun _ _ _ _ _ => c_if (t_cmpT (o_eq (units64 hr)) (t_ix (units1 hr) (t_var 4) (t_ix (units1 hr) (t_var 7) (t_int))) (t_var 3))) (fun _ _ _ _ _ => t_ix (units1 hr) (t_var 7) (t_int)) rfl | exact s_set 6 sc_law_next_pairs.nd (t_lc [("ride", 7)] rfl sc_law_next_pairs.nd (i_lst (t_call f_law_by_start (hr.mono (by decide)) (t_cons (t_var 1) (t_nil)))) (by kernel_rfl) (fun _ _ _ _ _ => g_name 7 sc_law_next_pairs.nd) (fun _ _ _ _ _ => c_if (t_cmpT (o_eq (units64 hr)) (t_ix (units1 hr) (t_var 4) (t_ix (units1 hr) (t_var 7) (t_int))) (t_var 3))) (fun _ _ _ _ _ => t_ix (units1 hr) (t_var 7) (t_int))))) (s_one (s_expr (t_mt PySem.F.plainAttrs_list PySem.F.slot_list_extend PySem.F.type_list_extend m_extend (t_var 5) (t_cons (t_listZip rfl fr_list fr_zip (t_var 6) (t_sl (t_var 6) (t_part (t_int)) t_no)) (t_nil))))))) (s_one (s_ret (t_var 5))))
theorem ok_law_next_pairs (f_law_held : Cal P w K mg base 1 "_law_held" [] c_law_held) (fr_range : mg "range" = none) (f_law_by_start : Cal P w K mg base 1 "_law_by_start" [] c_law_by_start) (fr_list : mg "list" = none) (fr_zip : mg "zip" = none) {f : Addr} {fd : FuncData} (F : FunD K "_law_next_pairs" "_law_next_pairs" (defArgs (top 53)) (defBody (top 53)) (defScope (top 53)) [] [] f fd) : FnOk P w K mg base CX0 2 f fd ["width", "rides", "spots"] (toSp K mg c_law_next_pairs) :=
  okT F sc_law_next_pairs len_law_next_pairs (fun _ _ _ _ _ _ hr => dv_law_next_pairs f_law_held fr_range f_law_by_start fr_list fr_zip hr) con_law_next_pairs
theorem sc_law_every : FnScope ["width", "rides", "every", "found", "spots", "here", "pair"] ["width", "rides"] (defScope (top 54)) := ⟨rfl, rfl, rfl, by decide +kernel, rfl, by decide +kernel, by decide +kernel⟩
theorem dv_law_every (f_law_all_plans : Cal P w K mg base 3 "_law_all_plans" [] c_law_all_plans) (f_law_next_pairs : Cal P w K mg base 2 "_law_next_pairs" [] c_law_next_pairs) (fr_sorted : mg "sorted" = none) (fr_tuple : mg "tuple" = none) {f : Addr} {cdv : Value} {A : Around} {outer : List Env} {s : Shared} {H : Hp} {E : XK} (hr : Room 3 (A.deeper (envOfC "_law_every" (defScope (top 54)) s.heap.objs.size f cdv))) :
    TPSs (cxOf CX0 P w K mg base ["width", "rides", "every", "found", "spots", "here", "pair"] "_law_every" (defScope (top 54)) f cdv A outer s H E).nox (defBody (top 54)) rd_law_every :=
  s_cons (s_set 2 sc_law_every.nd (t_call f_law_all_plans (hr.mono (by decide)) (t_cons (t_var 0) (t_cons (t_var 1) (t_nil))))) (s_cons (s_set 3 sc_law_every.nd (t_call f_law_next_pairs (hr.mono (by decide)) (t_cons (t_var 0) (t_cons (t_var 1) (t_cons (t_ix (units1 hr) (t_var 2) (t_int)) (t_nil)))))) (s_cons (s_for PassesOwn.never rfl (i_lst (t_sl (t_var 2) (t_part (t_int)) t_no)) (g_name 4 sc_law_every.nd) (s_cons (s_set 5 sc_law_every.nd (t_ifE (t_cmpT (o_ne (units64 hr)) (t_var 3) (t_lst (t_nil))) (t_call f_law_next_pairs (hr.mono (by decide)) (t_cons (t_var 0) (t_cons (t_var 1) (t_cons (t_var 4) (t_nil))))) (t_lst (t_nil)))) (s_one ((by first | exact s_setLc 3 [("pair", 6)] rfl sc_law_every.nd (i_lst (t_var 3)) (by kernel_rfl) (fun _ _ _ _ _ => g_name 6 sc_law_every.nd) (fun _ _ _ _ _ => c_if (t_cmpT (o_in (units65 hr)) (t_var 6) (t_var 5))) (fun _ _ _ _ _ => t_var 6) rfl | exact s_set 3 sc_law_every.nd (t_lc [("pair", 6)] rfl sc_law_every.nd (i_lst (t_var 3)) (by kernel_rfl) (fun _ _ _ _ _ => g_name 6 sc_law_every.nd) (fun _ _ _ _ _ => c_if (t_cmpT (o_in (units65 hr)) (t_var 6) (t_var 5))) (fun _ _ _ _ _ => t_var 6))))))) (s_one (s_ret (t_bty b_tuple fr_tuple (t_cons (t_blt (b_sorted rfl (units64 hr)) fr_sorted (t_cons (t_var 3) (t_nil))) (t_nil)))))))
theorem ok_law_every (f_law_all_plans : Cal P w K mg base 3 "_law_all_plans" [] c_law_all_plans) (f_law_next_pairs : Cal P w K mg base 2 "_law_next_pairs" [] c_law_next_pairs) (fr_sorted : mg "sorted" = none) (fr_tuple : mg "tuple" = none) {f : Addr} {fd : FuncData} (F : FunD K "_law_every" "_law_every" (defArgs (top 54)) (defBody (top 54)) (defScope (top 54)) [] [] f fd) : FnOk P w K mg base CX0 4 f fd ["width", "rides"] (toSp K mg c_law_every) :=
  okT F sc_law_every len_law_every (fun _ _ _ _ _ _ hr => dv_law_every f_law_all_plans f_law_next_pairs fr_sorted fr_tuple hr) con_law_every
theorem sc_law_backwards : FnScope ["rides", "far", "ride"] ["rides"] (defScope (top 55)) := ⟨rfl, rfl, rfl, by decide +kernel, rfl, by decide +kernel, by decide +kernel⟩
theorem dv_law_backwards (fr_max : mg "max" = none) (fr_tuple : mg "tuple" = none) {f : Addr} {cdv : Value} {A : Around} {outer : List Env} {s : Shared} {H : Hp} {E : XK} (hr : Room 0 (A.deeper (envOfC "_law_backwards" (defScope (top 55)) s.heap.objs.size f cdv))) :
    TPSs (cxOf CX0 P w K mg base ["rides", "far", "ride"] "_law_backwards" (defScope (top 55)) f cdv A outer s H E).nox (defBody (top 55)) rd_law_backwards :=
  s_cons (s_set 1 sc_law_backwards.nd (t_blt (b_max rfl) fr_max (t_cons (t_bin o_add (t_lc [("ride", 2)] rfl sc_law_backwards.nd (i_tup (t_var 0)) (by kernel_rfl) (fun _ _ _ _ _ => g_name 2 sc_law_backwards.nd) (fun _ _ _ _ _ => c_yes) (fun _ _ _ _ _ => t_ix (units1 hr) (t_var 2) (t_int))) (t_lst (t_cons (t_int) (t_nil)))) (t_nil)))) (s_one (s_ret (t_bty b_tuple fr_tuple (t_cons (t_lc [("ride", 2)] rfl sc_law_backwards.nd (i_tup (t_var 0)) (by kernel_rfl) (fun _ _ _ _ _ => g_name 2 sc_law_backwards.nd) (fun _ _ _ _ _ => c_yes) (fun _ _ _ _ _ => t_tup (t_cons (t_ix (units1 hr) (t_var 2) (t_int)) (t_cons (t_bin o_sub (t_var 1) (t_ix (units1 hr) (t_var 2) (t_int))) (t_cons (t_bin o_sub (t_var 1) (t_ix (units1 hr) (t_var 2) (t_int))) (t_nil)))))) (t_nil)))))
theorem ok_law_backwards (fr_max : mg "max" = none) (fr_tuple : mg "tuple" = none) {f : Addr} {fd : FuncData} (F : FunD K "_law_backwards" "_law_backwards" (defArgs (top 55)) (defBody (top 55)) (defScope (top 55)) [] [] f fd) : FnOk P w K mg base CX0 1 f fd ["rides"] (toSp K mg c_law_backwards) :=
  okT F sc_law_backwards len_law_backwards (fun _ _ _ _ _ _ hr => dv_law_backwards fr_max fr_tuple hr) con_law_backwards
theorem sc_law_right : FnScope ["pool", "wide", "widths", "backs", "k", "width", "rides", "boards", "due", "each"] ["pool"] (defScope (top 56)) := ⟨rfl, rfl, rfl, by decide +kernel, rfl, by decide +kernel, by decide +kernel⟩
theorem dv_law_right (f_law_small : Cal P w K mg base 4 "_law_small" [] c_law_small) (f_law_peak : Cal P w K mg base 2 "_law_peak" [] c_law_peak) (fr_max : mg "max" = none) (fr_len : mg "len" = none) (m_Line : KCal P w K mg base 5 "Line" [] c_Line_init) (f_law_every : Cal P w K mg base 4 "_law_every" [] c_law_every) (fr_repr : mg "repr" = none) (f_law_backwards : Cal P w K mg base 1 "_law_backwards" [] c_law_backwards) (fr_list : mg "list" = none) (fr_range : mg "range" = none) (f_always_follows : Cal P w K mg base 5 "always_follows" [] c_always_follows) (k_always_follows_line : KwC P w K mg base 5 "always_follows" ["line"] [0] c_always_follows) {f : Addr} {cdv : Value} {A : Around} {outer : List Env} {s : Shared} {H : Hp} {E : XK} (hr : Room 6 (A.deeper (envOfC "_law_right" (defScope (top 56)) s.heap.objs.size f cdv))) (hG : A.guards = some []) :
    TPSs (cxOf CX0 P w K mg base ["pool", "wide", "widths", "backs", "k", "width", "rides", "boards", "due", "each"] "_law_right" (defScope (top 56)) f cdv A outer s H E).nox (defBody (top 56)) rd_law_right :=
  s_cons (s_asg (t_call f_law_small (hr.mono (by decide)) (t_cons (t_var 0) (t_nil))) (g_tup rfl (g_cons (g_name 5 sc_law_right.nd) (g_cons (g_name 6 sc_law_right.nd) (g_nil))))) (s_cons (s_set 1 sc_law_right.nd (t_blt (b_max rfl) fr_max (t_cons (t_var 5) (t_cons (t_call f_law_peak (hr.mono (by decide)) (t_cons (t_var 6) (t_nil))) (t_nil))))) (s_cons (s_set 2 sc_law_right.nd (t_ifE (t_cmpT o_lt (t_blt b_len fr_len (t_cons (t_var 6) (t_nil))) (t_int)) (t_lst (t_cons (t_var 1) (t_cons (t_bin o_add (t_var 1) (t_int)) (t_nil)))) (t_lst (t_cons (t_var 1) (t_nil))))) (s_cons (s_par 7 8 rfl sc_law_right.nd (t_cons (t_lc [("each", 9)] rfl sc_law_right.nd (i_lst (t_var 2)) (by kernel_rfl) (fun _ _ _ _ _ => g_name 9 sc_law_right.nd) (fun _ _ _ _ _ => c_yes) (fun _ _ _ _ _ => t_make m_Line (hr.mono (by decide)) (t_cons (t_var 9) (t_cons (t_var 6) (t_nil))))) (t_cons (t_lc [("each", 9)] rfl sc_law_right.nd (i_lst (t_var 2)) (by kernel_rfl) (fun _ _ _ _ _ => g_name 9 sc_law_right.nd) (fun _ _ _ _ _ => c_yes) (fun _ _ _ _ _ => t_blt (b_repr hG (units64 hr)) fr_repr (t_cons (t_call f_law_every (hr.mono (by decide)) (t_cons (t_var 9) (t_cons (t_var 6) (t_nil)))) (t_nil)))) (t_nil)))) (s_cons (s_set 3 sc_law_right.nd (t_call f_law_backwards (hr.mono (by decide)) (t_cons (t_var 6) (t_nil)))) (s_cons (s_expr (t_mt PySem.F.plainAttrs_list PySem.F.slot_list_append PySem.F.type_list_append m_append (t_var 7) (t_cons (t_make m_Line (hr.mono (by decide)) (t_cons (t_var 1) (t_cons (t_var 3) (t_nil)))) (t_nil)))) (s_cons (s_expr (t_mt PySem.F.plainAttrs_list PySem.F.slot_list_append PySem.F.type_list_append m_append (t_var 8) (t_cons (t_blt (b_repr hG (units64 hr)) fr_repr (t_cons (t_call f_law_every (hr.mono (by decide)) (t_cons (t_var 1) (t_cons (t_var 3) (t_nil)))) (t_nil))) (t_nil)))) (s_cons (s_for PassesOwn.never rfl (i_lst (t_bin o_mul (t_listRg rfl fr_list (r_1 fr_range (t_blt b_len fr_len (t_cons (t_var 7) (t_nil))))) (t_int))) (g_name 4 sc_law_right.nd) (s_one (s_if (t_cmpT (o_ne (units64 hr)) (t_lst (t_cons (t_blt (b_repr hG (units64 hr)) fr_repr (t_cons (t_call f_always_follows (hr.mono (by decide)) (t_cons (t_ix (units1 hr) (t_var 7) (t_var 4)) (t_nil))) (t_nil))) (t_cons (t_blt (b_repr hG (units64 hr)) fr_repr (t_cons (t_callK k_always_follows_line (hr.mono (by decide)) (kw_cons (t_ix (units1 hr) (t_var 7) (t_var 4)) (kw_nil))) (t_nil))) (t_nil)))) (t_lst (t_cons (t_ix (units1 hr) (t_var 8) (t_var 4)) (t_cons (t_ix (units1 hr) (t_var 8) (t_var 4)) (t_nil))))) (s_one (s_ret (t_bl))) (s_nil)))) (s_one (s_ret (t_bl))))))))))
theorem ok_law_right (f_law_small : Cal P w K mg base 4 "_law_small" [] c_law_small) (f_law_peak : Cal P w K mg base 2 "_law_peak" [] c_law_peak) (fr_max : mg "max" = none) (fr_len : mg "len" = none) (m_Line : KCal P w K mg base 5 "Line" [] c_Line_init) (f_law_every : Cal P w K mg base 4 "_law_every" [] c_law_every) (fr_repr : mg "repr" = none) (f_law_backwards : Cal P w K mg base 1 "_law_backwards" [] c_law_backwards) (fr_list : mg "list" = none) (fr_range : mg "range" = none) (f_always_follows : Cal P w K mg base 5 "always_follows" [] c_always_follows) (k_always_follows_line : KwC P w K mg base 5 "always_follows" ["line"] [0] c_always_follows) {f : Addr} {fd : FuncData} (F : FunD K "_law_right" "_law_right" (defArgs (top 56)) (defBody (top 56)) (defScope (top 56)) [] [] f fd) : FnG P w K mg base 7 f fd ["pool"] (toSp K mg c_law_right) :=
  okTG F sc_law_right len_law_right (fun _ _ _ _ _ _ hr hG => dv_law_right f_law_small f_law_peak fr_max fr_len m_Line f_law_every fr_repr f_law_backwards fr_list fr_range f_always_follows k_always_follows_line hr hG) con_law_right
theorem sc_law_by_hand : FnScope ["first", "touching", "cases", "case", "width", "rides", "due"] [] (defScope (top 57)) := ⟨rfl, rfl, rfl, by decide +kernel, rfl, by decide +kernel, by decide +kernel⟩
theorem dv_law_by_hand (m_Line : KCal P w K mg base 5 "Line" [] c_Line_init) (f_always_follows : Cal P w K mg base 5 "always_follows" [] c_always_follows) {f : Addr} {cdv : Value} {A : Around} {outer : List Env} {s : Shared} {H : Hp} {E : XK} (hr : Room 6 (A.deeper (envOfC "_law_by_hand" (defScope (top 57)) s.heap.objs.size f cdv))) :
    TPSs (cxOf CX0 P w K mg base ["first", "touching", "cases", "case", "width", "rides", "due"] "_law_by_hand" (defScope (top 57)) f cdv A outer s H E).nox (defBody (top 57)) rd_law_by_hand :=
  s_cons (s_set 0 sc_law_by_hand.nd (t_tup (t_cons (t_tup (t_cons (t_str) (t_cons (t_int) (t_cons (t_int) (t_nil))))) (t_cons (t_tup (t_cons (t_str) (t_cons (t_int) (t_cons (t_int) (t_nil))))) (t_cons (t_tup (t_cons (t_str) (t_cons (t_int) (t_cons (t_int) (t_nil))))) (t_cons (t_tup (t_cons (t_str) (t_cons (t_int) (t_cons (t_int) (t_nil))))) (t_nil))))))) (s_cons (s_set 1 sc_law_by_hand.nd (t_tup (t_cons (t_tup (t_cons (t_str) (t_cons (t_int) (t_cons (t_int) (t_nil))))) (t_cons (t_tup (t_cons (t_str) (t_cons (t_int) (t_cons (t_int) (t_nil))))) (t_cons (t_tup (t_cons (t_str) (t_cons (t_int) (t_cons (t_int) (t_nil))))) (t_nil)))))) (s_cons (s_set 2 sc_law_by_hand.nd (t_lst (t_cons (t_tup (t_cons (t_int) (t_cons (t_var 0) (t_cons (t_tup (t_cons (t_tup (t_cons (t_str) (t_cons (t_str) (t_nil)))) (t_nil))) (t_nil))))) (t_cons (t_tup (t_cons (t_int) (t_cons (t_var 0) (t_cons (t_tup (t_nil)) (t_nil))))) (t_cons (t_tup (t_cons (t_int) (t_cons (t_var 1) (t_cons (t_tup (t_cons (t_tup (t_cons (t_str) (t_cons (t_str) (t_nil)))) (t_cons (t_tup (t_cons (t_str) (t_cons (t_str) (t_nil)))) (t_nil)))) (t_nil))))) (t_nil)))))) (s_cons (s_expr (t_mt PySem.F.plainAttrs_list PySem.F.slot_list_append PySem.F.type_list_append m_append (t_var 2) (t_cons (t_tup (t_cons (t_int) (t_cons (t_tup (t_cons (t_tup (t_cons (t_str) (t_cons (t_int) (t_cons (t_int) (t_nil))))) (t_cons (t_tup (t_cons (t_str) (t_cons (t_int) (t_cons (t_int) (t_nil))))) (t_cons (t_tup (t_cons (t_str) (t_cons (t_int) (t_cons (t_int) (t_nil))))) (t_nil))))) (t_cons (t_tup (t_nil)) (t_nil))))) (t_nil)))) (s_cons (s_expr (t_mt PySem.F.plainAttrs_list PySem.F.slot_list_append PySem.F.type_list_append m_append (t_var 2) (t_cons (t_tup (t_cons (t_int) (t_cons (t_tup (t_cons (t_tup (t_cons (t_str) (t_cons (t_int) (t_cons (t_int) (t_nil))))) (t_cons (t_tup (t_cons (t_str) (t_cons (t_int) (t_cons (t_int) (t_nil))))) (t_cons (t_tup (t_cons (t_str) (t_cons (t_int) (t_cons (t_int) (t_nil))))) (t_nil))))) (t_cons (t_tup (t_nil)) (t_nil))))) (t_nil)))) (s_cons (s_expr (t_mt PySem.F.plainAttrs_list PySem.F.slot_list_append PySem.F.type_list_append m_append (t_var 2) (t_cons (t_tup (t_cons (t_int) (t_cons (t_tup (t_cons (t_tup (t_cons (t_str) (t_cons (t_int) (t_cons (t_int) (t_nil))))) (t_cons (t_tup (t_cons (t_str) (t_cons (t_int) (t_cons (t_int) (t_nil))))) (t_cons (t_tup (t_cons (t_str) (t_cons (t_int) (t_cons (t_int) (t_nil))))) (t_nil))))) (t_cons (t_tup (t_cons (t_tup (t_cons (t_str) (t_cons (t_str) (t_nil)))) (t_nil))) (t_nil))))) (t_nil)))) (s_cons (s_expr (t_mt PySem.F.plainAttrs_list PySem.F.slot_list_append PySem.F.type_list_append m_append (t_var 2) (t_cons (t_tup (t_cons (t_int) (t_cons (t_tup (t_cons (t_tup (t_cons (t_str) (t_cons (t_int) (t_cons (t_int) (t_nil))))) (t_cons (t_tup (t_cons (t_str) (t_cons (t_int) (t_cons (t_int) (t_nil))))) (t_cons (t_tup (t_cons (t_str) (t_cons (t_int) (t_cons (t_int) (t_nil))))) (t_cons (t_tup (t_cons (t_str) (t_cons (t_int) (t_cons (t_int) (t_nil))))) (t_nil)))))) (t_cons (t_tup (t_cons (t_tup (t_cons (t_str) (t_cons (t_str) (t_nil)))) (t_cons (t_tup (t_cons (t_str) (t_cons (t_str) (t_nil)))) (t_nil)))) (t_nil))))) (t_nil)))) (s_one (s_ret (t_cmp (o_eq (units64 hr)) (t_lc [("width", 4), ("rides", 5), ("due", 6)] rfl sc_law_by_hand.nd (i_lst (t_var 2)) (by kernel_rfl) (fun _ _ _ _ _ => g_tup rfl (g_cons (g_name 4 sc_law_by_hand.nd) (g_cons (g_name 5 sc_law_by_hand.nd) (g_cons (g_name 6 sc_law_by_hand.nd) (g_nil))))) (fun _ _ _ _ _ => c_yes) (fun _ _ _ _ _ => t_call f_always_follows (hr.mono (by decide)) (t_cons (t_make m_Line (hr.mono (by decide)) (t_cons (t_var 4) (t_cons (t_var 5) (t_nil)))) (t_nil)))) (t_lc [("case", 3)] rfl sc_law_by_hand.nd (i_lst (t_var 2)) (by kernel_rfl) (fun _ _ _ _ _ => g_name 3 sc_law_by_hand.nd) (fun _ _ _ _ _ => c_yes) (fun _ _ _ _ _ => t_ix (units1 hr) (t_var 3) (t_int))))))))))))
theorem ok_law_by_hand (m_Line : KCal P w K mg base 5 "Line" [] c_Line_init) (f_always_follows : Cal P w K mg base 5 "always_follows" [] c_always_follows) {f : Addr} {fd : FuncData} (F : FunD K "_law_by_hand" "_law_by_hand" (defArgs (top 57)) (defBody (top 57)) (defScope (top 57)) [] [] f fd) : FnOk P w K mg base CX0 7 f fd [] (toSp K mg c_law_by_hand) :=
  okT F sc_law_by_hand len_law_by_hand (fun _ _ _ _ _ _ hr => dv_law_by_hand m_Line f_always_follows hr) con_law_by_hand
theorem sc_law : FnScope ["script", "k"] ["script"] (defScope (top 58)) := ⟨rfl, rfl, rfl, by decide +kernel, rfl, by decide +kernel, by decide +kernel⟩
theorem dv_law (f_law_by_hand : Cal P w K mg base 7 "_law_by_hand" [] c_law_by_hand) (fr_len : mg "len" = none) (fr_min : mg "min" = none) (fr_max : mg "max" = none) (fr_range : mg "range" = none) (f_law_cell : Cal P w K mg base 1 "_law_cell" [] c_law_cell) (f_law_pool : Cal P w K mg base 1 "_law_pool" [] c_law_pool) (f_law_right : CalG P w K mg base 7 "_law_right" [] c_law_right) (fr_all : mg "all" = none) {f : Addr} {cdv : Value} {A : Around} {outer : List Env} {s : Shared} {H : Hp} {E : XK} (hr : Room 7 (A.deeper (envOfC "law" (defScope (top 58)) s.heap.objs.size f cdv))) (hG : A.guards = some []) :
    TPSs (cxOf CX0 P w K mg base ["script", "k"] "law" (defScope (top 58)) f cdv A outer s H E).nox (defBody (top 58)) rd_law :=
  s_cons (s_if (t_notT (t_tru (t_call0 f_law_by_hand (hr.mono (by decide))))) (s_one (s_ret (t_bl))) (s_nil)) (s_one (s_ret (t_blt (b_all rfl) fr_all (t_cons (t_lc [("k", 1)] rfl sc_law.nd (i_range1 fr_range (t_cons (t_blt (b_max rfl) fr_max (t_cons (t_int) (t_cons (t_blt (b_min rfl) fr_min (t_cons (t_blt b_len fr_len (t_cons (t_var 0) (t_nil))) (t_cons (t_int) (t_nil)))) (t_nil)))) (t_nil))) (by kernel_rfl) (fun _ _ _ _ _ => g_name 1 sc_law.nd) (fun _ _ _ _ _ => c_yes) (fun _ _ _ _ _ => t_callG f_law_right (hr.mono (by decide)) hG (t_cons (t_call f_law_pool (hr.mono (by decide)) (t_cons (t_call f_law_cell (hr.mono (by decide)) (t_cons (t_var 0) (t_cons (t_var 1) (t_nil)))) (t_nil))) (t_nil)))) (t_nil)))))
theorem ok_law (f_law_by_hand : Cal P w K mg base 7 "_law_by_hand" [] c_law_by_hand) (fr_len : mg "len" = none) (fr_min : mg "min" = none) (fr_max : mg "max" = none) (fr_range : mg "range" = none) (f_law_cell : Cal P w K mg base 1 "_law_cell" [] c_law_cell) (f_law_pool : Cal P w K mg base 1 "_law_pool" [] c_law_pool) (f_law_right : CalG P w K mg base 7 "_law_right" [] c_law_right) (fr_all : mg "all" = none) {f : Addr} {fd : FuncData} (F : FunD K "law" "law" (defArgs (top 58)) (defBody (top 58)) (defScope (top 58)) [] [] f fd) : FnG P w K mg base 8 f fd ["script"] (toSp K mg c_law) :=
  okTG F sc_law len_law (fun _ _ _ _ _ _ hr hG => dv_law f_law_by_hand fr_len fr_min fr_max fr_range f_law_cell f_law_pool f_law_right fr_all hr hG) con_law
end
def fn : List DefG := [gDef (top 14),
  gDef (top 15),
  gDef (top 16),
  gDef (top 17),
  gDef (top 18),
  gDef (top 20),
  gDef (top 24),
  gDef (top 25),
  gDef (top 26),
  mDef "Line" "Line.__init__" (L2.inClass (top 29) 2) [.adr fun K => dflK K (He.ma K (He.ga K "Line") "__init__") 0],
  pDef "Line" "Line.capacity" (L2.inClass (top 29) 6),
  pDef "Line" "Line.trips" (L2.inClass (top 29) 7),
  gDef (top 30),
  mDef "Line" "Line.load" (L2.inClass (top 29) 14),
  gDef (top 31),
  gDef (top 33),
  gDef (top 35),
  gDef (top 36),
  gDef (top 38),
  gDef (top 39),
  gDef (top 40),
  gDef (top 41),
  gDef (top 42),
  gDef (top 43),
  gDef (top 44),
  gDef (top 45),
  gDef (top 46),
  gDef (top 47),
  gDef (top 48),
  gDef (top 49),
  gDef (top 50),
  gDef (top 51),
  gDef (top 52),
  gDef (top 53),
  gDef (top 54),
  gDef (top 55),
  gDef (top 56),
  gDef (top 57),
  gDef (top 58)]
abbrev CL_Line (K : PySem.W.Frag) : Addr := He.ga K "Line"
def frs : List Str := ["int", "isinstance", "bool", "str", "len", "all", "tuple", "enumerate", "sorted", "min", "abs", "divmod", "range", "max", "dict", "list", "zip", "repr"]
def glos : List Str := (["is_whole", "is_from", "is_between", "is_name", "is_trip", "passes", "check_seats", "first_wrong", "by_start", "load_of", "check_line", "first_overfull", "only_follower", "always_follows", "_law_cell", "_law_pool", "_law_draw", "_law_words", "_law_far", "_law_rides"] : List Str) ++ (["_law_meet", "_law_by_start", "_law_load", "_law_peak", "_law_choices", "_law_flat", "_law_all_plans", "_law_held", "_law_small", "_law_next_pairs", "_law_every", "_law_backwards", "_law_right", "_law_by_hand", "law", "Line"] : List Str)
def cks (K : PySem.W.Frag) : List Bool := [ckGlo glos K, ckFree frs K, ckCls (CL_Line K) K, ckNo (CL_Line K) fs_Line K, ckMk (CL_Line K) K, ckIns (CL_Line K) K, ckProp (CL_Line K) "capacity" K, ckProp (CL_Line K) "trips" K, ckMeth (CL_Line K) "load" K, ckStr "LETTERS" "abcdefghijklmnopqrstuvwxyz" K, ckInt "MAX_SEATS" 20 K, ckInt "MAX_TRIPS" 24 K]
def ck (K : PySem.W.Frag) : Bool := (cks K).all id
theorem facts {P : Program} {w : World} {K : PySem.W.Frag} {h : Heap} {mg : Str → Option Value} {fa : Addr} (X : K.In h) (G : h.Ns mainGlobals mg) (hfa : mg ("law" : Str) = some (.ref fa)) (c : SaysK ck fn K) :
    ∃ fd : FuncData, (∀ (s : Shared) (v : Value), BindsTo s fd ⟨[v], []⟩ [("script", v)]) ∧ ∀ base : Heap, K.In base → base.Ns mainGlobals mg → FnG P w K mg base 8 fa fd ["script"] (toSp K mg c_law) := by
  have ca := List.all_eq_true.mp (show (cks K).all id = true from c.fact)
  have c_glo : ckGlo glos K = true := ca _ (List.mem_of_getElem? (i := 0) rfl)
  have c_free : ckFree frs K = true := ca _ (List.mem_of_getElem? (i := 1) rfl)
  have c_cls_Line : ckCls (CL_Line K) K = true := ca _ (List.mem_of_getElem? (i := 2) rfl)
  have c_no_Line : ckNo (CL_Line K) fs_Line K = true := ca _ (List.mem_of_getElem? (i := 3) rfl)
  have c_mk_Line : ckMk (CL_Line K) K = true := ca _ (List.mem_of_getElem? (i := 4) rfl)
  have c_ins_Line : ckIns (CL_Line K) K = true := ca _ (List.mem_of_getElem? (i := 5) rfl)
  have c_p_Line_capacity : ckProp (CL_Line K) "capacity" K = true := ca _ (List.mem_of_getElem? (i := 6) rfl)
  have c_p_Line_trips : ckProp (CL_Line K) "trips" K = true := ca _ (List.mem_of_getElem? (i := 7) rfl)
  have c_m_Line_load : ckMeth (CL_Line K) "load" K = true := ca _ (List.mem_of_getElem? (i := 8) rfl)
  have c_k_LETTERS : ckStr "LETTERS" "abcdefghijklmnopqrstuvwxyz" K = true := ca _ (List.mem_of_getElem? (i := 9) rfl)
  have c_k_MAX_SEATS : ckInt "MAX_SEATS" 20 K = true := ca _ (List.mem_of_getElem? (i := 10) rfl)
  have c_k_MAX_TRIPS : ckInt "MAX_TRIPS" 24 K = true := ca _ (List.mem_of_getElem? (i := 11) rfl)
  have fr_int : mg "int" = none := free_of X G c_free (by decide +kernel)
  have fr_isinstance : mg "isinstance" = none := free_of X G c_free (by decide +kernel)
  have fr_bool : mg "bool" = none := free_of X G c_free (by decide +kernel)
  have fr_str : mg "str" = none := free_of X G c_free (by decide +kernel)
  have fr_len : mg "len" = none := free_of X G c_free (by decide +kernel)
  have fr_all : mg "all" = none := free_of X G c_free (by decide +kernel)
  have fr_tuple : mg "tuple" = none := free_of X G c_free (by decide +kernel)
  have fr_enumerate : mg "enumerate" = none := free_of X G c_free (by decide +kernel)
  have fr_sorted : mg "sorted" = none := free_of X G c_free (by decide +kernel)
  have fr_min : mg "min" = none := free_of X G c_free (by decide +kernel)
  have fr_abs : mg "abs" = none := free_of X G c_free (by decide +kernel)
  have fr_divmod : mg "divmod" = none := free_of X G c_free (by decide +kernel)
  have fr_range : mg "range" = none := free_of X G c_free (by decide +kernel)
  have fr_max : mg "max" = none := free_of X G c_free (by decide +kernel)
  have fr_dict : mg "dict" = none := free_of X G c_free (by decide +kernel)
  have fr_list : mg "list" = none := free_of X G c_free (by decide +kernel)
  have fr_zip : mg "zip" = none := free_of X G c_free (by decide +kernel)
  have fr_repr : mg "repr" = none := free_of X G c_free (by decide +kernel)
  have k_LETTERS : ∃ t, mg "LETTERS" = some (.str "abcdefghijklmnopqrstuvwxyz" t) := str_of X G c_k_LETTERS
  have k_MAX_SEATS : ∃ t, mg "MAX_SEATS" = some (.int 20 t) := int_of X G c_k_MAX_SEATS
  have k_MAX_TRIPS : ∃ t, mg "MAX_TRIPS" = some (.int 24 t) := int_of X G c_k_MAX_TRIPS
  have g_is_whole : mg "is_whole" = some (.ref (He.ga K "is_whole")) := glo_of X G c_glo (by decide +kernel)
  have g_is_from : mg "is_from" = some (.ref (He.ga K "is_from")) := glo_of X G c_glo (by decide +kernel)
  have g_is_between : mg "is_between" = some (.ref (He.ga K "is_between")) := glo_of X G c_glo (by decide +kernel)
  have g_is_name : mg "is_name" = some (.ref (He.ga K "is_name")) := glo_of X G c_glo (by decide +kernel)
  have g_is_trip : mg "is_trip" = some (.ref (He.ga K "is_trip")) := glo_of X G c_glo (by decide +kernel)
  have g_passes : mg "passes" = some (.ref (He.ga K "passes")) := glo_of X G c_glo (by decide +kernel)
  have g_check_seats : mg "check_seats" = some (.ref (He.ga K "check_seats")) := glo_of X G c_glo (by decide +kernel)
  have g_first_wrong : mg "first_wrong" = some (.ref (He.ga K "first_wrong")) := glo_of X G c_glo (by decide +kernel)
  have g_by_start : mg "by_start" = some (.ref (He.ga K "by_start")) := glo_of X G c_glo (by decide +kernel)
  have g_load_of : mg "load_of" = some (.ref (He.ga K "load_of")) := glo_of X G c_glo (by decide +kernel)
  have g_check_line : mg "check_line" = some (.ref (He.ga K "check_line")) := glo_of X G c_glo (by decide +kernel)
  have g_first_overfull : mg "first_overfull" = some (.ref (He.ga K "first_overfull")) := glo_of X G c_glo (by decide +kernel)
  have g_only_follower : mg "only_follower" = some (.ref (He.ga K "only_follower")) := glo_of X G c_glo (by decide +kernel)
  have g_always_follows : mg "always_follows" = some (.ref (He.ga K "always_follows")) := glo_of X G c_glo (by decide +kernel)
  have g_law_cell : mg "_law_cell" = some (.ref (He.ga K "_law_cell")) := glo_of X G c_glo (by decide +kernel)
  have g_law_pool : mg "_law_pool" = some (.ref (He.ga K "_law_pool")) := glo_of X G c_glo (by decide +kernel)
  have g_law_draw : mg "_law_draw" = some (.ref (He.ga K "_law_draw")) := glo_of X G c_glo (by decide +kernel)
  have g_law_words : mg "_law_words" = some (.ref (He.ga K "_law_words")) := glo_of X G c_glo (by decide +kernel)
  have g_law_far : mg "_law_far" = some (.ref (He.ga K "_law_far")) := glo_of X G c_glo (by decide +kernel)
  have g_law_rides : mg "_law_rides" = some (.ref (He.ga K "_law_rides")) := glo_of X G c_glo (by decide +kernel)
  have g_law_meet : mg "_law_meet" = some (.ref (He.ga K "_law_meet")) := glo_of X G c_glo (by decide +kernel)
  have g_law_by_start : mg "_law_by_start" = some (.ref (He.ga K "_law_by_start")) := glo_of X G c_glo (by decide +kernel)
  have g_law_load : mg "_law_load" = some (.ref (He.ga K "_law_load")) := glo_of X G c_glo (by decide +kernel)
  have g_law_peak : mg "_law_peak" = some (.ref (He.ga K "_law_peak")) := glo_of X G c_glo (by decide +kernel)
  have g_law_choices : mg "_law_choices" = some (.ref (He.ga K "_law_choices")) := glo_of X G c_glo (by decide +kernel)
  have g_law_flat : mg "_law_flat" = some (.ref (He.ga K "_law_flat")) := glo_of X G c_glo (by decide +kernel)
  have g_law_all_plans : mg "_law_all_plans" = some (.ref (He.ga K "_law_all_plans")) := glo_of X G c_glo (by decide +kernel)
  have g_law_held : mg "_law_held" = some (.ref (He.ga K "_law_held")) := glo_of X G c_glo (by decide +kernel)
  have g_law_small : mg "_law_small" = some (.ref (He.ga K "_law_small")) := glo_of X G c_glo (by decide +kernel)
  have g_law_next_pairs : mg "_law_next_pairs" = some (.ref (He.ga K "_law_next_pairs")) := glo_of X G c_glo (by decide +kernel)
  have g_law_every : mg "_law_every" = some (.ref (He.ga K "_law_every")) := glo_of X G c_glo (by decide +kernel)
  have g_law_backwards : mg "_law_backwards" = some (.ref (He.ga K "_law_backwards")) := glo_of X G c_glo (by decide +kernel)
  have g_law_right : mg "_law_right" = some (.ref (He.ga K "_law_right")) := glo_of X G c_glo (by decide +kernel)
  have g_law_by_hand : mg "_law_by_hand" = some (.ref (He.ga K "_law_by_hand")) := glo_of X G c_glo (by decide +kernel)
  have g_law : mg "law" = some (.ref (He.ga K "law")) := glo_of X G c_glo (by decide +kernel)
  have g_Line : mg "Line" = some (.ref (He.ga K "Line")) := glo_of X G c_glo (by decide +kernel)
  have cl0_Line : Cls K (CL_Line K) := cls_of c_cls_Line
  have cl_Line : ClsF K mg "Line" := ⟨CL_Line K, g_Line, cl0_Line⟩
  have no_Line : (f : Str) → (h : f ∈ fs_Line) → NoF K mg "Line" f := fun f h => ⟨CL_Line K, g_Line, no_of c_no_Line h⟩
  have in_Line : InsF K mg "Line" (CL_Line K) := ins_of g_Line c_cls_Line c_ins_Line
  obtain ⟨fd_is_whole, F_is_whole⟩ : ∃ fd, FunD K "is_whole" "is_whole" (defArgs (top 14)) (defBody (top 14)) (defScope (top 14)) [] [] (He.ga K "is_whole") fd := c.def_ 0 (d := gDef (top 14)) rfl
  obtain ⟨fd_is_from, F_is_from⟩ : ∃ fd, FunD K "is_from" "is_from" (defArgs (top 15)) (defBody (top 15)) (defScope (top 15)) [] [] (He.ga K "is_from") fd := c.def_ 1 (d := gDef (top 15)) rfl
  obtain ⟨fd_is_between, F_is_between⟩ : ∃ fd, FunD K "is_between" "is_between" (defArgs (top 16)) (defBody (top 16)) (defScope (top 16)) [] [] (He.ga K "is_between") fd := c.def_ 2 (d := gDef (top 16)) rfl
  obtain ⟨fd_is_name, F_is_name⟩ : ∃ fd, FunD K "is_name" "is_name" (defArgs (top 17)) (defBody (top 17)) (defScope (top 17)) [] [] (He.ga K "is_name") fd := c.def_ 3 (d := gDef (top 17)) rfl
  obtain ⟨fd_is_trip, F_is_trip⟩ : ∃ fd, FunD K "is_trip" "is_trip" (defArgs (top 18)) (defBody (top 18)) (defScope (top 18)) [] [] (He.ga K "is_trip") fd := c.def_ 4 (d := gDef (top 18)) rfl
  obtain ⟨fd_passes, F_passes⟩ : ∃ fd, FunD K "passes" "passes" (defArgs (top 20)) (defBody (top 20)) (defScope (top 20)) [] [] (He.ga K "passes") fd := c.def_ 5 (d := gDef (top 20)) rfl
  obtain ⟨fd_check_seats, F_check_seats⟩ : ∃ fd, FunD K "check_seats" "check_seats" (defArgs (top 24)) (defBody (top 24)) (defScope (top 24)) [] [] (He.ga K "check_seats") fd := c.def_ 6 (d := gDef (top 24)) rfl
  obtain ⟨fd_first_wrong, F_first_wrong⟩ : ∃ fd, FunD K "first_wrong" "first_wrong" (defArgs (top 25)) (defBody (top 25)) (defScope (top 25)) [] [] (He.ga K "first_wrong") fd := c.def_ 7 (d := gDef (top 25)) rfl
  obtain ⟨fd_by_start, F_by_start⟩ : ∃ fd, FunD K "by_start" "by_start" (defArgs (top 26)) (defBody (top 26)) (defScope (top 26)) [] [] (He.ga K "by_start") fd := c.def_ 8 (d := gDef (top 26)) rfl
  obtain ⟨fd_Line_init, F_Line_init⟩ : ∃ fd, FunD K "__init__" "Line.__init__" (defArgs (L2.inClass (top 29) 2)) (defBody (L2.inClass (top 29) 2)) (defScope (L2.inClass (top 29) 2)) [V.ref (dflK K (He.ma K (He.ga K "Line") "__init__") 0)] [] (He.ma K (He.ga K "Line") "__init__") fd := c.def_ 9 (d := mDef "Line" "Line.__init__" (L2.inClass (top 29) 2) [.adr fun K => dflK K (He.ma K (He.ga K "Line") "__init__") 0]) rfl
  obtain ⟨fd_Line_capacity, F_Line_capacity⟩ : ∃ fd, FunD K "capacity" "Line.capacity" (defArgs (L2.inClass (top 29) 6)) (defBody (L2.inClass (top 29) 6)) (defScope (L2.inClass (top 29) 6)) [] [] (getAd K (He.ma K (He.ga K "Line") "capacity")) fd := c.def_ 10 (d := pDef "Line" "Line.capacity" (L2.inClass (top 29) 6)) rfl
  obtain ⟨fd_Line_trips, F_Line_trips⟩ : ∃ fd, FunD K "trips" "Line.trips" (defArgs (L2.inClass (top 29) 7)) (defBody (L2.inClass (top 29) 7)) (defScope (L2.inClass (top 29) 7)) [] [] (getAd K (He.ma K (He.ga K "Line") "trips")) fd := c.def_ 11 (d := pDef "Line" "Line.trips" (L2.inClass (top 29) 7)) rfl
  obtain ⟨fd_load_of, F_load_of⟩ : ∃ fd, FunD K "load_of" "load_of" (defArgs (top 30)) (defBody (top 30)) (defScope (top 30)) [] [] (He.ga K "load_of") fd := c.def_ 12 (d := gDef (top 30)) rfl
  obtain ⟨fd_Line_load, F_Line_load⟩ : ∃ fd, FunD K "load" "Line.load" (defArgs (L2.inClass (top 29) 14)) (defBody (L2.inClass (top 29) 14)) (defScope (L2.inClass (top 29) 14)) [] [] (He.ma K (He.ga K "Line") "load") fd := c.def_ 13 (d := mDef "Line" "Line.load" (L2.inClass (top 29) 14)) rfl
  obtain ⟨fd_check_line, F_check_line⟩ : ∃ fd, FunD K "check_line" "check_line" (defArgs (top 31)) (defBody (top 31)) (defScope (top 31)) [] [] (He.ga K "check_line") fd := c.def_ 14 (d := gDef (top 31)) rfl
  obtain ⟨fd_first_overfull, F_first_overfull⟩ : ∃ fd, FunD K "first_overfull" "first_overfull" (defArgs (top 33)) (defBody (top 33)) (defScope (top 33)) [] [] (He.ga K "first_overfull") fd := c.def_ 15 (d := gDef (top 33)) rfl
  obtain ⟨fd_only_follower, F_only_follower⟩ : ∃ fd, FunD K "only_follower" "only_follower" (defArgs (top 35)) (defBody (top 35)) (defScope (top 35)) [] [] (He.ga K "only_follower") fd := c.def_ 16 (d := gDef (top 35)) rfl
  obtain ⟨fd_always_follows, F_always_follows⟩ : ∃ fd, FunD K "always_follows" "always_follows" (defArgs (top 36)) (defBody (top 36)) (defScope (top 36)) [] [] (He.ga K "always_follows") fd := c.def_ 17 (d := gDef (top 36)) rfl
  obtain ⟨fd_law_cell, F_law_cell⟩ : ∃ fd, FunD K "_law_cell" "_law_cell" (defArgs (top 38)) (defBody (top 38)) (defScope (top 38)) [] [] (He.ga K "_law_cell") fd := c.def_ 18 (d := gDef (top 38)) rfl
  obtain ⟨fd_law_pool, F_law_pool⟩ : ∃ fd, FunD K "_law_pool" "_law_pool" (defArgs (top 39)) (defBody (top 39)) (defScope (top 39)) [] [] (He.ga K "_law_pool") fd := c.def_ 19 (d := gDef (top 39)) rfl
  obtain ⟨fd_law_draw, F_law_draw⟩ : ∃ fd, FunD K "_law_draw" "_law_draw" (defArgs (top 40)) (defBody (top 40)) (defScope (top 40)) [] [] (He.ga K "_law_draw") fd := c.def_ 20 (d := gDef (top 40)) rfl
  obtain ⟨fd_law_words, F_law_words⟩ : ∃ fd, FunD K "_law_words" "_law_words" (defArgs (top 41)) (defBody (top 41)) (defScope (top 41)) [] [] (He.ga K "_law_words") fd := c.def_ 21 (d := gDef (top 41)) rfl
  obtain ⟨fd_law_far, F_law_far⟩ : ∃ fd, FunD K "_law_far" "_law_far" (defArgs (top 42)) (defBody (top 42)) (defScope (top 42)) [] [] (He.ga K "_law_far") fd := c.def_ 22 (d := gDef (top 42)) rfl
  obtain ⟨fd_law_rides, F_law_rides⟩ : ∃ fd, FunD K "_law_rides" "_law_rides" (defArgs (top 43)) (defBody (top 43)) (defScope (top 43)) [] [] (He.ga K "_law_rides") fd := c.def_ 23 (d := gDef (top 43)) rfl
  obtain ⟨fd_law_meet, F_law_meet⟩ : ∃ fd, FunD K "_law_meet" "_law_meet" (defArgs (top 44)) (defBody (top 44)) (defScope (top 44)) [] [] (He.ga K "_law_meet") fd := c.def_ 24 (d := gDef (top 44)) rfl
  obtain ⟨fd_law_by_start, F_law_by_start⟩ : ∃ fd, FunD K "_law_by_start" "_law_by_start" (defArgs (top 45)) (defBody (top 45)) (defScope (top 45)) [] [] (He.ga K "_law_by_start") fd := c.def_ 25 (d := gDef (top 45)) rfl
  obtain ⟨fd_law_load, F_law_load⟩ : ∃ fd, FunD K "_law_load" "_law_load" (defArgs (top 46)) (defBody (top 46)) (defScope (top 46)) [] [] (He.ga K "_law_load") fd := c.def_ 26 (d := gDef (top 46)) rfl
  obtain ⟨fd_law_peak, F_law_peak⟩ : ∃ fd, FunD K "_law_peak" "_law_peak" (defArgs (top 47)) (defBody (top 47)) (defScope (top 47)) [] [] (He.ga K "_law_peak") fd := c.def_ 27 (d := gDef (top 47)) rfl
  obtain ⟨fd_law_choices, F_law_choices⟩ : ∃ fd, FunD K "_law_choices" "_law_choices" (defArgs (top 48)) (defBody (top 48)) (defScope (top 48)) [] [] (He.ga K "_law_choices") fd := c.def_ 28 (d := gDef (top 48)) rfl
  obtain ⟨fd_law_flat, F_law_flat⟩ : ∃ fd, FunD K "_law_flat" "_law_flat" (defArgs (top 49)) (defBody (top 49)) (defScope (top 49)) [] [] (He.ga K "_law_flat") fd := c.def_ 29 (d := gDef (top 49)) rfl
  obtain ⟨fd_law_all_plans, F_law_all_plans⟩ : ∃ fd, FunD K "_law_all_plans" "_law_all_plans" (defArgs (top 50)) (defBody (top 50)) (defScope (top 50)) [] [] (He.ga K "_law_all_plans") fd := c.def_ 30 (d := gDef (top 50)) rfl
  obtain ⟨fd_law_held, F_law_held⟩ : ∃ fd, FunD K "_law_held" "_law_held" (defArgs (top 51)) (defBody (top 51)) (defScope (top 51)) [] [] (He.ga K "_law_held") fd := c.def_ 31 (d := gDef (top 51)) rfl
  obtain ⟨fd_law_small, F_law_small⟩ : ∃ fd, FunD K "_law_small" "_law_small" (defArgs (top 52)) (defBody (top 52)) (defScope (top 52)) [] [] (He.ga K "_law_small") fd := c.def_ 32 (d := gDef (top 52)) rfl
  obtain ⟨fd_law_next_pairs, F_law_next_pairs⟩ : ∃ fd, FunD K "_law_next_pairs" "_law_next_pairs" (defArgs (top 53)) (defBody (top 53)) (defScope (top 53)) [] [] (He.ga K "_law_next_pairs") fd := c.def_ 33 (d := gDef (top 53)) rfl
  obtain ⟨fd_law_every, F_law_every⟩ : ∃ fd, FunD K "_law_every" "_law_every" (defArgs (top 54)) (defBody (top 54)) (defScope (top 54)) [] [] (He.ga K "_law_every") fd := c.def_ 34 (d := gDef (top 54)) rfl
  obtain ⟨fd_law_backwards, F_law_backwards⟩ : ∃ fd, FunD K "_law_backwards" "_law_backwards" (defArgs (top 55)) (defBody (top 55)) (defScope (top 55)) [] [] (He.ga K "_law_backwards") fd := c.def_ 35 (d := gDef (top 55)) rfl
  obtain ⟨fd_law_right, F_law_right⟩ : ∃ fd, FunD K "_law_right" "_law_right" (defArgs (top 56)) (defBody (top 56)) (defScope (top 56)) [] [] (He.ga K "_law_right") fd := c.def_ 36 (d := gDef (top 56)) rfl
  obtain ⟨fd_law_by_hand, F_law_by_hand⟩ : ∃ fd, FunD K "_law_by_hand" "_law_by_hand" (defArgs (top 57)) (defBody (top 57)) (defScope (top 57)) [] [] (He.ga K "_law_by_hand") fd := c.def_ 37 (d := gDef (top 57)) rfl
  obtain ⟨fd_law, F_law⟩ : ∃ fd, FunD K "law" "law" (defArgs (top 58)) (defBody (top 58)) (defScope (top 58)) [] [] (He.ga K "law") fd := c.def_ 38 (d := gDef (top 58)) rfl
  have e := hfa.symm.trans g_law
  cases e
  have b := FunD.bindsA (ps := ["script"]) F_law fun _ _ _ _ _ _ us hl => match us, hl with | [_], _ => rfl
  refine ⟨fd_law, fun s v => b s [v] rfl, fun base _ _ => ?_⟩
  have okis_whole := ok_is_whole (P := P) (w := w) (K := K) (mg := mg) (base := base) fr_int fr_isinstance fr_bool F_is_whole
  have f_is_whole : Cal P w K mg base 1 "is_whole" [] c_is_whole := cal_of F_is_whole g_is_whole okis_whole (fun _ _ _ _ _ _ us hl => match us, hl with | [_], _ => rfl)
  have okis_from := ok_is_from (P := P) (w := w) (K := K) (mg := mg) (base := base) f_is_whole F_is_from
  have f_is_from : Cal P w K mg base 2 "is_from" [] c_is_from := cal_of F_is_from g_is_from okis_from (fun _ _ _ _ _ _ us hl => match us, hl with | [_, _], _ => rfl)
  have okis_between := ok_is_between (P := P) (w := w) (K := K) (mg := mg) (base := base) f_is_whole F_is_between
  have f_is_between : Cal P w K mg base 2 "is_between" [] c_is_between := cal_of F_is_between g_is_between okis_between (fun _ _ _ _ _ _ us hl => match us, hl with | [_, _, _], _ => rfl)
  have okis_name := ok_is_name (P := P) (w := w) (K := K) (mg := mg) (base := base) fr_str fr_isinstance fr_len k_LETTERS fr_all F_is_name
  have f_is_name : Cal P w K mg base 1 "is_name" [] c_is_name := cal_of F_is_name g_is_name okis_name (fun _ _ _ _ _ _ us hl => match us, hl with | [_], _ => rfl)
  have okis_trip := ok_is_trip (P := P) (w := w) (K := K) (mg := mg) (base := base) fr_tuple fr_isinstance fr_len f_is_name f_is_from f_is_whole F_is_trip
  have f_is_trip : Cal P w K mg base 3 "is_trip" [] c_is_trip := cal_of F_is_trip g_is_trip okis_trip (fun _ _ _ _ _ _ us hl => match us, hl with | [_], _ => rfl)
  have okpasses := ok_passes (P := P) (w := w) (K := K) (mg := mg) (base := base)  F_passes
  have f_passes : Cal P w K mg base 1 "passes" [] c_passes := cal_of F_passes g_passes okpasses (fun _ _ _ _ _ _ us hl => match us, hl with | [_, _], _ => rfl)
  have okcheck_seats := ok_check_seats (P := P) (w := w) (K := K) (mg := mg) (base := base) k_MAX_SEATS f_is_between F_check_seats
  have f_check_seats : Cal P w K mg base 3 "check_seats" [] c_check_seats := cal_of F_check_seats g_check_seats okcheck_seats (fun _ _ _ _ _ _ us hl => match us, hl with | [_], _ => rfl)
  have okfirst_wrong := ok_first_wrong (P := P) (w := w) (K := K) (mg := mg) (base := base) fr_enumerate k_MAX_TRIPS f_is_trip F_first_wrong
  have f_first_wrong : Cal P w K mg base 4 "first_wrong" [] c_first_wrong := cal_of F_first_wrong g_first_wrong okfirst_wrong (fun _ _ _ _ _ _ us hl => match us, hl with | [_], _ => rfl)
  have okby_start := ok_by_start (P := P) (w := w) (K := K) (mg := mg) (base := base) fr_sorted F_by_start
  have f_by_start : Cal P w K mg base 1 "by_start" [] c_by_start := cal_of F_by_start g_by_start okby_start (fun _ _ _ _ _ _ us hl => match us, hl with | [_], _ => rfl)
  have okLine_init := ok_Line_init (P := P) (w := w) (K := K) (mg := mg) (base := base) f_check_seats fr_tuple fr_isinstance f_first_wrong cl_Line (fun f h => no_Line f h) f_by_start F_Line_init
  obtain ⟨ds_Line_init, v_Line_init, b_Line_init⟩ := F_Line_init.binds1 (ps := ["self", "seats", "trips"]) 3 1 (by simp) rfl (fun _ _ _ _ _ _ _ us its hl hi => match us, hl, its, hi with | [_, _, _], _, [_], _ => ⟨_, rfl, rfl⟩)
  cases v_Line_init
  have m_Line : KCal P w K mg base 5 "Line" [] c_Line_init := ⟨CL_Line K, _, fd_Line_init, _, [], [], okLine_init, g_Line, mk_of' c_mk_Line, b_Line_init, .nil, fun _ => rfl⟩
  have okLine_capacity := ok_Line_capacity (P := P) (w := w) (K := K) (mg := mg) (base := base) cl_Line (fun f h => no_Line f h) F_Line_capacity
  have p_Line_capacity : PCal P w K mg base 1 "Line" "capacity" c_Line_capacity := ⟨CL_Line K, _, _, fd_Line_capacity, _, okLine_capacity, g_Line, cl0_Line, prop_of c_p_Line_capacity, F_Line_capacity.bindsN (fun _ _ _ _ _ _ us hl => match us, hl with | [_], _ => rfl)⟩
  have okLine_trips := ok_Line_trips (P := P) (w := w) (K := K) (mg := mg) (base := base) cl_Line (fun f h => no_Line f h) F_Line_trips
  have p_Line_trips : PCal P w K mg base 1 "Line" "trips" c_Line_trips := ⟨CL_Line K, _, _, fd_Line_trips, _, okLine_trips, g_Line, cl0_Line, prop_of c_p_Line_trips, F_Line_trips.bindsN (fun _ _ _ _ _ _ us hl => match us, hl with | [_], _ => rfl)⟩
  have okload_of := ok_load_of (P := P) (w := w) (K := K) (mg := mg) (base := base) f_passes fr_len F_load_of
  have f_load_of : Cal P w K mg base 2 "load_of" [] c_load_of := cal_of F_load_of g_load_of okload_of (fun _ _ _ _ _ _ us hl => match us, hl with | [_, _], _ => rfl)
  have okLine_load := ok_Line_load (P := P) (w := w) (K := K) (mg := mg) (base := base) f_is_from cl_Line (fun f h => no_Line f h) f_load_of F_Line_load
  have me_Line_load : MCal P w K mg base 3 "Line" "load" [] c_Line_load := ⟨CL_Line K, _, fd_Line_load, _, [], [], okLine_load, g_Line, cl0_Line, meth_of c_m_Line_load, F_Line_load.bindsN (fun _ _ _ _ _ _ us hl => match us, hl with | [_, _], _ => rfl), .nil, fun _ => rfl⟩
  have okcheck_line := ok_check_line (P := P) (w := w) (K := K) (mg := mg) (base := base) g_Line fr_isinstance in_Line F_check_line
  have f_check_line : Cal P w K mg base 1 "check_line" [] c_check_line := cal_of F_check_line g_check_line okcheck_line (fun _ _ _ _ _ _ us hl => match us, hl with | [_], _ => rfl)
  have okfirst_overfull := ok_first_overfull (P := P) (w := w) (K := K) (mg := mg) (base := base) p_Line_trips me_Line_load p_Line_capacity fr_min F_first_overfull
  have f_first_overfull : Cal P w K mg base 4 "first_overfull" [] c_first_overfull := cal_of F_first_overfull g_first_overfull okfirst_overfull (fun _ _ _ _ _ _ us hl => match us, hl with | [_], _ => rfl)
  have okonly_follower := ok_only_follower (P := P) (w := w) (K := K) (mg := mg) (base := base) p_Line_trips me_Line_load p_Line_capacity fr_min fr_len F_only_follower
  have f_only_follower : Cal P w K mg base 4 "only_follower" [] c_only_follower := cal_of F_only_follower g_only_follower okonly_follower (fun _ _ _ _ _ _ us hl => match us, hl with | [_, _], _ => rfl)
  have okalways_follows := ok_always_follows (P := P) (w := w) (K := K) (mg := mg) (base := base) f_check_line f_first_overfull p_Line_trips f_only_follower fr_tuple F_always_follows
  have f_always_follows : Cal P w K mg base 5 "always_follows" [] c_always_follows := cal_of F_always_follows g_always_follows okalways_follows (fun _ _ _ _ _ _ us hl => match us, hl with | [_], _ => rfl)
  have k_always_follows_line : KwC P w K mg base 5 "always_follows" ["line"] [0] c_always_follows := KwC.of F_always_follows g_always_follows okalways_follows (fun _ _ _ _ _ _ us hl => match us, hl with | [_], _ => rfl)
  have oklaw_cell := ok_law_cell (P := P) (w := w) (K := K) (mg := mg) (base := base) fr_len F_law_cell
  have f_law_cell : Cal P w K mg base 1 "_law_cell" [] c_law_cell := cal_of F_law_cell g_law_cell oklaw_cell (fun _ _ _ _ _ _ us hl => match us, hl with | [_, _], _ => rfl)
  have oklaw_pool := ok_law_pool (P := P) (w := w) (K := K) (mg := mg) (base := base) fr_abs F_law_pool
  have f_law_pool : Cal P w K mg base 1 "_law_pool" [] c_law_pool := cal_of F_law_pool g_law_pool oklaw_pool (fun _ _ _ _ _ _ us hl => match us, hl with | [_], _ => rfl)
  have oklaw_draw := ok_law_draw (P := P) (w := w) (K := K) (mg := mg) (base := base) fr_divmod F_law_draw
  have f_law_draw : Cal P w K mg base 1 "_law_draw" [] c_law_draw := cal_of F_law_draw g_law_draw oklaw_draw (fun _ _ _ _ _ _ us hl => match us, hl with | [_, _], _ => rfl)
  have oklaw_words := ok_law_words (P := P) (w := w) (K := K) (mg := mg) (base := base) f_law_draw fr_range fr_len F_law_words
  have f_law_words : Cal P w K mg base 2 "_law_words" [] c_law_words := cal_of F_law_words g_law_words oklaw_words (fun _ _ _ _ _ _ us hl => match us, hl with | [_, _], _ => rfl)
  have oklaw_far := ok_law_far (P := P) (w := w) (K := K) (mg := mg) (base := base) f_law_draw fr_range F_law_far
  have f_law_far : Cal P w K mg base 2 "_law_far" [] c_law_far := cal_of F_law_far g_law_far oklaw_far (fun _ _ _ _ _ _ us hl => match us, hl with | [_, _], _ => rfl)
  have oklaw_rides := ok_law_rides (P := P) (w := w) (K := K) (mg := mg) (base := base) f_law_far f_law_draw fr_min fr_sorted fr_tuple F_law_rides
  have f_law_rides : Cal P w K mg base 3 "_law_rides" [] c_law_rides := cal_of F_law_rides g_law_rides oklaw_rides (fun _ _ _ _ _ _ us hl => match us, hl with | [_, _, _], _ => rfl)
  have oklaw_meet := ok_law_meet (P := P) (w := w) (K := K) (mg := mg) (base := base)  F_law_meet
  have f_law_meet : Cal P w K mg base 1 "_law_meet" [] c_law_meet := cal_of F_law_meet g_law_meet oklaw_meet (fun _ _ _ _ _ _ us hl => match us, hl with | [_, _], _ => rfl)
  have oklaw_by_start := ok_law_by_start (P := P) (w := w) (K := K) (mg := mg) (base := base) fr_sorted F_law_by_start
  have f_law_by_start : Cal P w K mg base 1 "_law_by_start" [] c_law_by_start := cal_of F_law_by_start g_law_by_start oklaw_by_start (fun _ _ _ _ _ _ us hl => match us, hl with | [_], _ => rfl)
  have oklaw_load := ok_law_load (P := P) (w := w) (K := K) (mg := mg) (base := base) fr_len F_law_load
  have f_law_load : Cal P w K mg base 1 "_law_load" [] c_law_load := cal_of F_law_load g_law_load oklaw_load (fun _ _ _ _ _ _ us hl => match us, hl with | [_, _], _ => rfl)
  have oklaw_peak := ok_law_peak (P := P) (w := w) (K := K) (mg := mg) (base := base) f_law_load fr_max F_law_peak
  have f_law_peak : Cal P w K mg base 2 "_law_peak" [] c_law_peak := cal_of F_law_peak g_law_peak oklaw_peak (fun _ _ _ _ _ _ us hl => match us, hl with | [_], _ => rfl)
  have oklaw_choices := ok_law_choices (P := P) (w := w) (K := K) (mg := mg) (base := base) f_law_meet fr_range F_law_choices
  have f_law_choices : Cal P w K mg base 2 "_law_choices" [] c_law_choices := cal_of F_law_choices g_law_choices oklaw_choices (fun _ _ _ _ _ _ us hl => match us, hl with | [_, _, _, _], _ => rfl)
  have oklaw_flat := ok_law_flat (P := P) (w := w) (K := K) (mg := mg) (base := base) fr_sorted fr_tuple F_law_flat
  have f_law_flat : Cal P w K mg base 1 "_law_flat" [] c_law_flat := cal_of F_law_flat g_law_flat oklaw_flat (fun _ _ _ _ _ _ us hl => match us, hl with | [_], _ => rfl)
  have oklaw_all_plans := ok_law_all_plans (P := P) (w := w) (K := K) (mg := mg) (base := base) f_law_by_start f_law_choices fr_dict f_law_flat F_law_all_plans
  have f_law_all_plans : Cal P w K mg base 3 "_law_all_plans" [] c_law_all_plans := cal_of F_law_all_plans g_law_all_plans oklaw_all_plans (fun _ _ _ _ _ _ us hl => match us, hl with | [_, _], _ => rfl)
  have oklaw_held := ok_law_held (P := P) (w := w) (K := K) (mg := mg) (base := base)  F_law_held
  have f_law_held : Cal P w K mg base 1 "_law_held" [] c_law_held := cal_of F_law_held g_law_held oklaw_held (fun _ _ _ _ _ _ us hl => match us, hl with | [_], _ => rfl)
  have oklaw_small := ok_law_small (P := P) (w := w) (K := K) (mg := mg) (base := base) f_law_words f_law_draw f_law_rides F_law_small
  have f_law_small : Cal P w K mg base 4 "_law_small" [] c_law_small := cal_of F_law_small g_law_small oklaw_small (fun _ _ _ _ _ _ us hl => match us, hl with | [_], _ => rfl)
  have oklaw_next_pairs := ok_law_next_pairs (P := P) (w := w) (K := K) (mg := mg) (base := base) f_law_held fr_range f_law_by_start fr_list fr_zip F_law_next_pairs
  have f_law_next_pairs : Cal P w K mg base 2 "_law_next_pairs" [] c_law_next_pairs := cal_of F_law_next_pairs g_law_next_pairs oklaw_next_pairs (fun _ _ _ _ _ _ us hl => match us, hl with | [_, _, _], _ => rfl)
  have oklaw_every := ok_law_every (P := P) (w := w) (K := K) (mg := mg) (base := base) f_law_all_plans f_law_next_pairs fr_sorted fr_tuple F_law_every
  have f_law_every : Cal P w K mg base 4 "_law_every" [] c_law_every := cal_of F_law_every g_law_every oklaw_every (fun _ _ _ _ _ _ us hl => match us, hl with | [_, _], _ => rfl)
  have oklaw_backwards := ok_law_backwards (P := P) (w := w) (K := K) (mg := mg) (base := base) fr_max fr_tuple F_law_backwards
  have f_law_backwards : Cal P w K mg base 1 "_law_backwards" [] c_law_backwards := cal_of F_law_backwards g_law_backwards oklaw_backwards (fun _ _ _ _ _ _ us hl => match us, hl with | [_], _ => rfl)
  have oklaw_right := ok_law_right (P := P) (w := w) (K := K) (mg := mg) (base := base) f_law_small f_law_peak fr_max fr_len m_Line f_law_every fr_repr f_law_backwards fr_list fr_range f_always_follows k_always_follows_line F_law_right
  have f_law_right : CalG P w K mg base 7 "_law_right" [] c_law_right := calG_of F_law_right g_law_right oklaw_right (fun _ _ _ _ _ _ us hl => match us, hl with | [_], _ => rfl)
  have oklaw_by_hand := ok_law_by_hand (P := P) (w := w) (K := K) (mg := mg) (base := base) m_Line f_always_follows F_law_by_hand
  have f_law_by_hand : Cal P w K mg base 7 "_law_by_hand" [] c_law_by_hand := cal_of F_law_by_hand g_law_by_hand oklaw_by_hand (fun _ _ _ _ _ _ us hl => match us, hl with | [], _ => rfl)
  have oklaw := ok_law (P := P) (w := w) (K := K) (mg := mg) (base := base) f_law_by_hand fr_len fr_min fr_max fr_range f_law_cell f_law_pool f_law_right fr_all F_law
  exact oklaw
abbrev R : OpenRow := OpenLaw.row PySem.Challenge.rw_seatchains_k44_trips_that_always_follow
abbrev hk : Hook := hookK ck fn
def ob (s : SharedT) : AlG := obsKG ck fn (HandSHeadRun.getT s)
def loose1 : List Str := (["_wall", "__name__", "SeatError", "InvalidSeats", "InvalidTrips", "InvalidName", "InvalidStation", "InvalidText", "NotALine", "StateError", "Overfull", "LETTERS", "DIGITS", "is_whole", "is_from", "is_between", "is_name", "is_trip", "read_number", "passes"] : List Str) ++ (["MAX_SEATS", "MAX_TRIPS", "check_seats", "first_wrong", "by_start", "trip_text"] : List Str)
def loose2 : List Str := (["read_trip", "Line", "load_of", "check_line", "first_overfull", "only_follower", "always_follows", "_law_cell", "_law_pool", "_law_draw", "_law_words", "_law_far", "_law_rides", "_law_meet", "_law_by_start", "_law_load", "_law_peak", "_law_choices", "_law_flat", "_law_all_plans"] : List Str) ++ (["_law_held", "_law_small", "_law_next_pairs", "_law_every", "_law_backwards", "_law_right", "_law_by_hand"] : List Str)
theorem ob_eq (s : SharedT) : ob s = hk.obs s.abs := obsKG_eq (HandSHeadRun.getT_eq s)
theorem run (w : World) : HandSHeadRun.RunEq R (view R.prog [58]) hk ob 6000 (loose1 ++ loose2) w := by
  intro os
  kernel_rfl
end K44
open PySem PySem.W PySem.Calls PyProof.Rows
theorem PySem.Challenge.cw_seatchains_k44_trips_that_always_follow_holds : PySem.Challenge.rw_seatchains_k44_trips_that_always_follow.Holds := by
  w_on; o_law
  refine HandSHeadRun.head_any (r := OpenLaw.row PySem.Challenge.rw_seatchains_k44_trips_that_always_follow) (q := view (OpenLaw.row PySem.Challenge.rw_seatchains_k44_trips_that_always_follow).prog [58]) (H := K44.hk) (ob := K44.ob) (M := 6000) (loose := K44.loose1 ++ K44.loose2) (d := HandSHeadRun.topDef (OpenLaw.row PySem.Challenge.rw_seatchains_k44_trips_that_always_follow).prog 58) (kwd := []) K44.ob_eq
    (by kernel_rfl) (fun s => by kernel_rfl) K44.run (by kernel_rfl) (by kernel_rfl) (by kernel_rfl) (by rfl) (by first | assumption | decide +kernel) (by decide +kernel) ⟨rfl, rfl, rfl, rfl, rfl, by decide +kernel⟩ ?hw ?hc
  case hw => w_witness2
  case hc =>
    refine T.walk_G (l := PySem.Challenge.rw_seatchains_k44_trips_that_always_follow) (n := 63) (k := 8) (x := "script") (c := T.c_law) rfl (by decide) (by kernel_rfl) ⟨rfl, by decide, by decide⟩ (fun ns _ => ⟨ns, rfl, fun _ => rfl⟩) ?F
    intro w mg fa h Y G hmg0
    obtain ⟨K, KX, c⟩ := Y
    have hmg : mg ("law" : PySem.Str) = some (.ref fa) := by
      have e : (HandSHeadRun.topDef (OpenLaw.row PySem.Challenge.rw_seatchains_k44_trips_that_always_follow).prog 58).name = ("law" : PySem.Str) := by kernel_rfl
      rw [← e]
      exact hmg0
    obtain ⟨fd, hb, hF⟩ := K44.facts (P := (PySem.Challenge.rw_seatchains_k44_trips_that_always_follow).prog) (w := w) KX G hmg c
    exact ⟨K, fd, KX, hb, hF⟩
