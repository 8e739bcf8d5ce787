import PyProof.Rows.All
import Wide.All
import OpenK.AllK
import Wide.FinOn
import HandS.ForMost
import HandS.Wide
import HandS.TupAny
import HandS.TupMul
import HandS.Deep
import HandS.DictTup
import HandS.IsInst
import HandS.WordsDict
import HandS.WordsList
import KE.KTupSum
import KE.SortData
import HandS.Defaults
import HandS.SetFor
import HandS.Strs
import PySem.Challenge.RW_owedthen_k36_days_of_business
set_option Elab.async false
set_option linter.all false
set_option maxRecDepth 100000
/-! GX: values as trees, their relation to the heap, footprints. -/
namespace GX
open PySem PySem.Spec PyProof.Rows L2

/-- a Python value as a tree; the Bool of a list, a dict, an instance: it is owned (one reference to it alone, it may be changed) -/
inductive PV where
  | non
  | bl (b : Bool)
  | int (i : Int)
  | str (x : Str)
  | tup (xs : List PV)
  | lst (o : Bool) (xs : List PV)
  | dic (o : Bool) (kvs : List (Key × PV))
  | ins (o : Bool) (c : Str) (fs : List (Str × PV))
  | zls (xs : List PV)
  | ty (n : String)
  | fn (x : Str)

mutual
/-- nothing owned within -/
def PV.pure : PV → Bool
  | .tup xs => PV.pures xs
  | .lst o _ => !o
  | .dic o _ => !o
  | .ins o _ _ => !o
  | _ => true
def PV.pures : List PV → Bool
  | [] => true
  | x :: xs => x.pure && PV.pures xs
end
mutual
def PV.frzD : PV → PV
  | .tup xs => .tup (PV.frzDs xs)
  | .lst true xs => .lst false (PV.frzDs xs)
  | .dic true kvs => .dic false (PV.frzDk kvs)
  | .ins true c fs => .ins false c (PV.frzDf fs)
  | x => x
def PV.frzDs : List PV → List PV
  | [] => []
  | x :: xs => x.frzD :: PV.frzDs xs
def PV.frzDk : List (Key × PV) → List (Key × PV)
  | [] => []
  | (k, x) :: xs => (k, x.frzD) :: PV.frzDk xs
def PV.frzDf : List (Str × PV) → List (Str × PV)
  | [] => []
  | (k, x) :: xs => (k, x.frzD) :: PV.frzDf xs
end
/-- what is owned is so no more -/
def PV.frz (x : PV) : PV := if x.pure then x else x.frzD

theorem pures_eq : ∀ xs : List PV, PV.pures xs = xs.all PV.pure
  | [] => rfl
  | x :: xs => by rw [PV.pures, pures_eq xs, List.all_cons]
theorem frzDs_eq : ∀ xs : List PV, PV.frzDs xs = xs.map PV.frzD
  | [] => rfl
  | x :: xs => by rw [PV.frzDs, frzDs_eq xs, List.map_cons]

/-- the script -/
def ZL (K : PySem.W.Frag) (H : Hp) (B : Addr → Prop) (a : Addr) (ys : List V) : Prop := (Rd H a (.lst ys) ∧ ¬ B a) ∨
  ∃ (o : Obj) (its : Array Value) (n : Nat), K.lookup a = some o ∧ o.cls = .type "list" ∧ o.dict = none ∧ o.data = .seq its n ∧ its.size ≤ sizeLine ∧ Vals ys its.toList
theorem ZL.sq {K : PySem.W.Frag} {H : Hp} {B : Addr → Prop} {a : Addr} {ys : List V} (h : ZL K H B a ys) : SqL K H a ys := h.imp And.left id
theorem ZL.weak {K : PySem.W.Frag} {H : Hp} {B B' : Addr → Prop} {a : Addr} {ys : List V} (h : ZL K H B a ys) (nb : B' a → B a) : ZL K H B' a ys := h.imp (fun z => ⟨z.1, fun q => z.2 (nb q)⟩) id
mutual
/-- the tree x stands at v; the last list: the addresses of what is owned in it -/
inductive RV (K : PySem.W.Frag) (mg : Str → Option Value) (H : Hp) (B : Addr → Prop) : PV → V → List Addr → Prop
  | non : RV K mg H B .non .non []
  | bl (b : Bool) : RV K mg H B (.bl b) (.bl b) []
  | int (i : Int) : RV K mg H B (.int i) (.int i) []
  | str (x : Str) : RV K mg H B (.str x) (.str x) []
  | ty (n : String) : RV K mg H B (.ty n) (.ty n) []
  | tup {a : Addr} {ys : List V} {xs : List PV} {F : List Addr} : SqT K H a ys → RVs K mg H B xs ys F → RV K mg H B (.tup xs) (.ref a) F
  | lstF {a : Addr} {ys : List V} {xs : List PV} : H a = some (.lst ys) → ¬ B a → RVs K mg H B xs ys [] → RV K mg H B (.lst false xs) (.ref a) []
  | lstO {a : Addr} {ys : List V} {xs : List PV} {F : List Addr} : H a = some (.lst ys) → B a → RVs K mg H B xs ys F → RV K mg H B (.lst true xs) (.ref a) (a :: F)
  | dicF {a : Addr} {ks : List (Key × V)} {ps : List (Key × PV)} : Rd H a (.dK ks) → ¬ B a → ps.map (·.1) = ks.map (·.1) → RVs K mg H B (ps.map (·.2)) (ks.map (·.2)) [] → RV K mg H B (.dic false ps) (.ref a) []
  | dicO {a : Addr} {ks : List (Key × V)} {ps : List (Key × PV)} {F : List Addr} : H a = some (.dK ks) → B a → ps.map (·.1) = ks.map (·.1) → RVs K mg H B (ps.map (·.2)) (ks.map (·.2)) F → RV K mg H B (.dic true ps) (.ref a) (a :: F)
  | insF {a C dx : Addr} {c : Str} {fs : List (Str × V)} {ps : List (Str × PV)} : H a = some (.ins C dx fs) → ¬ B a → mg c = some (.ref C) → ps.map (·.1) = fs.map (·.1) → RVs K mg H B (ps.map (·.2)) (fs.map (·.2)) [] → RV K mg H B (.ins false c ps) (.ref a) []
  | insO {a C dx : Addr} {c : Str} {fs : List (Str × V)} {ps : List (Str × PV)} {F : List Addr} : H a = some (.ins C dx fs) → B a → mg c = some (.ref C) → ps.map (·.1) = fs.map (·.1) → RVs K mg H B (ps.map (·.2)) (fs.map (·.2)) F → RV K mg H B (.ins true c ps) (.ref a) (a :: F)
  | zls {a : Addr} {ys : List V} {xs : List PV} : ZL K H B a ys → RVs K mg H B xs ys [] → RV K mg H B (.zls xs) (.ref a) []
  | fn {x : Str} {f : Addr} : mg x = some (.ref f) → RV K mg H B (.fn x) (.ref f) []
inductive RVs (K : PySem.W.Frag) (mg : Str → Option Value) (H : Hp) (B : Addr → Prop) : List PV → List V → List Addr → Prop
  | nil : RVs K mg H B [] [] []
  | cons {x : PV} {xs : List PV} {v : V} {vs : List V} {F G : List Addr} : RV K mg H B x v F → RVs K mg H B xs vs G → RVs K mg H B (x :: xs) (v :: vs) (F ++ G)
end

section
variable {K : PySem.W.Frag} {mg : Str → Option Value} {H H' : Hp} {B B' : Addr → Prop} {x : PV} {xs : List PV} {v : V} {vs : List V} {F G W : List Addr}

/-- all that is tracked and lies outside of W stays -/
def Keep (W : List Addr) (H : Hp) (B : Addr → Prop) (H' : Hp) (B' : Addr → Prop) : Prop := ∀ b o, H b = some o → b ∉ W → H' b = some o ∧ (B' b ↔ B b)
/-- W's objects may be changed -/
def MutW (W : List Addr) (H : Hp) (B : Addr → Prop) : Prop := ∀ b ∈ W, B b ∧ Mut (H b)

theorem Keep.rd {a : Addr} {u : HO} (k : Keep W H B H' B') (m : MutW W H B) (h : Rd H a u) (nB : ¬ B a) : Rd H' a u ∧ ¬ B' a := by
  have na : a ∉ W := fun z => nB (m a z).1
  rcases h with h | ⟨o, h⟩
  · obtain ⟨e, i⟩ := k a _ h na
    exact ⟨.inl e, fun z => nB (i.mp z)⟩
  · obtain ⟨e, i⟩ := k a _ h na
    exact ⟨.inr ⟨o, e⟩, fun z => nB (i.mp z)⟩
theorem Keep.sqT {a : Addr} {ys : List V} (k : Keep W H B H' B') (m : MutW W H B) (h : SqT K H a ys) : SqT K H' a ys := by
  rcases h with (h | ⟨o, h⟩) | h
  · have na : a ∉ W := fun z => by have := (m a z).2; rw [h] at this; exact this
    exact .inl (.inl (k a _ h na).1)
  · have na : a ∉ W := fun z => by have := (m a z).2; rw [h] at this; exact this
    exact .inl (.inr ⟨o, (k a _ h na).1⟩)
  · exact .inr h

mutual
theorem RV.keep (k : Keep W H B H' B') (m : MutW W H B) : ∀ {x : PV} {v : V} {F : List Addr}, RV K mg H B x v F → (∀ b ∈ F, b ∉ W) → RV K mg H' B' x v F
  | _, _, _, .non, _ => .non
  | _, _, _, .bl b, _ => .bl b
  | _, _, _, .int b, _ => .int b
  | _, _, _, .str b, _ => .str b
  | _, _, _, .ty b, _ => .ty b
  | _, _, _, .fn h, _ => .fn h
  | _, _, _, .tup h r, d => .tup (k.sqT m h) (RVs.keep k m r d)
  | _, _, _, .lstF h nB r, d =>
    have z := k _ _ h fun w => nB (m _ w).1
    .lstF z.1 (fun q => nB (z.2.mp q)) (RVs.keep k m r d)
  | _, _, _, .zls h r, d => .zls (h.imp (fun z => k.rd m z.1 z.2) id) (RVs.keep k m r d)
  | _, _, _, .lstO h b r, d => .lstO (k _ _ h (d _ (.head _))).1 ((k _ _ h (d _ (.head _))).2.mpr b) (RVs.keep k m r fun c hc => d c (.tail _ hc))
  | _, _, _, .dicF h nB e r, d => .dicF (k.rd m h nB).1 (k.rd m h nB).2 e (RVs.keep k m r d)
  | _, _, _, .dicO h b e r, d => .dicO (k _ _ h (d _ (.head _))).1 ((k _ _ h (d _ (.head _))).2.mpr b) e (RVs.keep k m r fun c hc => d c (.tail _ hc))
  | _, _, _, .insF h nB g e r, d =>
    have z := k _ _ h fun w => nB (m _ w).1
    .insF z.1 (fun q => nB (z.2.mp q)) g e (RVs.keep k m r d)
  | _, _, _, .insO h b g e r, d => .insO (k _ _ h (d _ (.head _))).1 ((k _ _ h (d _ (.head _))).2.mpr b) g e (RVs.keep k m r fun c hc => d c (.tail _ hc))
theorem RVs.keep (k : Keep W H B H' B') (m : MutW W H B) : ∀ {xs : List PV} {vs : List V} {F : List Addr}, RVs K mg H B xs vs F → (∀ b ∈ F, b ∉ W) → RVs K mg H' B' xs vs F
  | _, _, _, .nil, _ => .nil
  | _, _, _, .cons r t, d => .cons (RV.keep k m r fun b hb => d b (List.mem_append_left _ hb)) (RVs.keep k m t fun b hb => d b (List.mem_append_right _ hb))
end
mutual
theorem RV.mut : ∀ {x : PV} {v : V} {F : List Addr}, RV K mg H B x v F → MutW F H B
  | _, _, _, .non => fun _ h => nomatch h
  | _, _, _, .bl b => fun _ h => nomatch h
  | _, _, _, .int b => fun _ h => nomatch h
  | _, _, _, .str b => fun _ h => nomatch h
  | _, _, _, .ty b => fun _ h => nomatch h
  | _, _, _, .fn h => fun _ h => nomatch h
  | _, _, _, .tup h r => RVs.mut r
  | _, _, _, .lstF h nB r => RVs.mut r
  | _, _, _, .zls h r => RVs.mut r
  | _, _, _, .lstO h b r => fun c hc => (List.mem_cons.mp hc).elim (fun e => e ▸ ⟨b, by rw [h]; trivial⟩) (RVs.mut r c)
  | _, _, _, .dicF h nB e r => RVs.mut r
  | _, _, _, .dicO h b e r => fun c hc => (List.mem_cons.mp hc).elim (fun e => e ▸ ⟨b, by rw [h]; trivial⟩) (RVs.mut r c)
  | _, _, _, .insF h nB g e r => RVs.mut r
  | _, _, _, .insO h b g e r => fun c hc => (List.mem_cons.mp hc).elim (fun e => e ▸ ⟨b, by rw [h]; trivial⟩) (RVs.mut r c)
theorem RVs.mut : ∀ {xs : List PV} {vs : List V} {F : List Addr}, RVs K mg H B xs vs F → MutW F H B
  | _, _, _, .nil => fun _ h => nomatch h
  | _, _, _, .cons r t => fun c hc => (List.mem_append.mp hc).elim (RV.mut r c) (RVs.mut t c)
end

mutual
theorem RV.pure : ∀ {x : PV} {v : V} {F : List Addr}, RV K mg H B x v F → x.pure = true → F = []
  | _, _, _, .non, _ => rfl
  | _, _, _, .bl b, _ => rfl
  | _, _, _, .int b, _ => rfl
  | _, _, _, .str b, _ => rfl
  | _, _, _, .ty b, _ => rfl
  | _, _, _, .fn h, _ => rfl
  | _, _, _, .tup h r, e => RVs.pure r (by simpa [PV.pure] using e)
  | _, _, _, .lstF h nB r, _ => rfl
  | _, _, _, .zls h r, _ => rfl
  | _, _, _, .lstO h b r, e => by simp [PV.pure] at e
  | _, _, _, .dicF h nB q r, _ => rfl
  | _, _, _, .dicO h b q r, e => by simp [PV.pure] at e
  | _, _, _, .insF h nB g q r, _ => rfl
  | _, _, _, .insO h b g q r, e => by simp [PV.pure] at e
theorem RVs.pure : ∀ {xs : List PV} {vs : List V} {F : List Addr}, RVs K mg H B xs vs F → PV.pures xs = true → F = []
  | _, _, _, .nil, _ => rfl
  | _, _, _, .cons r t, e => by
    simp only [PV.pures, Bool.and_eq_true] at e
    rw [RV.pure r e.1, RVs.pure t e.2]
    rfl
end
theorem frzDk_fst : ∀ ps : List (Key × PV), (PV.frzDk ps).map (·.1) = ps.map (·.1)
  | [] => rfl
  | (k, x) :: ps => by rw [PV.frzDk, List.map_cons, List.map_cons, frzDk_fst ps]
theorem frzDf_fst : ∀ ps : List (Str × PV), (PV.frzDf ps).map (·.1) = ps.map (·.1)
  | [] => rfl
  | (k, x) :: ps => by rw [PV.frzDf, List.map_cons, List.map_cons, frzDf_fst ps]
theorem frzDk_snd : ∀ ps : List (Key × PV), (PV.frzDk ps).map (·.2) = PV.frzDs (ps.map (·.2))
  | [] => rfl
  | (k, x) :: ps => by rw [PV.frzDk, List.map_cons, List.map_cons, frzDk_snd ps, PV.frzDs]
theorem frzDf_snd : ∀ ps : List (Str × PV), (PV.frzDf ps).map (·.2) = PV.frzDs (ps.map (·.2))
  | [] => rfl
  | (k, x) :: ps => by rw [PV.frzDf, List.map_cons, List.map_cons, frzDf_snd ps, PV.frzDs]
mutual
/-- freezing: nothing changes but what is owned -/
theorem RV.frzD (nb : ∀ b, B' b → B b ∧ b ∉ G) : ∀ {x : PV} {v : V} {F : List Addr}, RV K mg H B x v F → (∀ b ∈ F, b ∈ G) → RV K mg H B' x.frzD v []
  | _, _, _, .non, _ => .non
  | _, _, _, .bl b, _ => .bl b
  | _, _, _, .int b, _ => .int b
  | _, _, _, .str b, _ => .str b
  | _, _, _, .ty b, _ => .ty b
  | _, _, _, .fn h, _ => .fn h
  | _, _, _, .tup h r, d => .tup h (RVs.frzD nb r d)
  | _, _, _, .lstF h nB r, d => .lstF h (fun z => nB (nb _ z).1) (RVs.weakB nb r rfl)
  | _, _, _, .zls h r, d => .zls (h.weak fun z => (nb _ z).1) (RVs.weakB nb r rfl)
  | _, _, _, .lstO h b r, d => .lstF h (fun z => (nb _ z).2 (d _ (.head _))) (RVs.frzD nb r fun c hc => d c (.tail _ hc))
  | _, _, _, .dicF h nB e r, d => .dicF h (fun z => nB (nb _ z).1) e (RVs.weakB nb r rfl)
  | _, _, _, .dicO h b e r, d => .dicF (.inl h) (fun z => (nb _ z).2 (d _ (.head _))) ((frzDk_fst _).trans e) (by rw [frzDk_snd]; exact RVs.frzD nb r fun c hc => d c (.tail _ hc))
  | _, _, _, .insF h nB g e r, d => .insF h (fun z => nB (nb _ z).1) g e (RVs.weakB nb r rfl)
  | _, _, _, .insO h b g e r, d => .insF h (fun z => (nb _ z).2 (d _ (.head _))) g ((frzDf_fst _).trans e) (by rw [frzDf_snd]; exact RVs.frzD nb r fun c hc => d c (.tail _ hc))
theorem RVs.frzD (nb : ∀ b, B' b → B b ∧ b ∉ G) : ∀ {xs : List PV} {vs : List V} {F : List Addr}, RVs K mg H B xs vs F → (∀ b ∈ F, b ∈ G) → RVs K mg H B' (PV.frzDs xs) vs []
  | _, _, _, .nil, _ => .nil
  | _, _, _, .cons r t, d => .cons (F := []) (G := []) (RV.frzD nb r fun b hb => d b (List.mem_append_left _ hb)) (RVs.frzD nb t fun b hb => d b (List.mem_append_right _ hb))
/-- the same where nothing within is owned -/
theorem RV.weakB (nb : ∀ b, B' b → B b ∧ b ∉ G) : ∀ {x : PV} {v : V} {F : List Addr}, RV K mg H B x v F → F = [] → RV K mg H B' x v []
  | _, _, _, .non, _ => .non
  | _, _, _, .bl b, _ => .bl b
  | _, _, _, .int b, _ => .int b
  | _, _, _, .str b, _ => .str b
  | _, _, _, .ty b, _ => .ty b
  | _, _, _, .fn h, _ => .fn h
  | _, _, _, .tup h r, d => .tup h (RVs.weakB nb r d)
  | _, _, _, .lstF h nB r, d => .lstF h (fun z => nB (nb _ z).1) (RVs.weakB nb r rfl)
  | _, _, _, .zls h r, d => .zls (h.weak fun z => (nb _ z).1) (RVs.weakB nb r rfl)
  | _, _, _, .lstO h b r, d => nomatch d
  | _, _, _, .dicF h nB e r, d => .dicF h (fun z => nB (nb _ z).1) e (RVs.weakB nb r rfl)
  | _, _, _, .dicO h b e r, d => nomatch d
  | _, _, _, .insF h nB g e r, d => .insF h (fun z => nB (nb _ z).1) g e (RVs.weakB nb r rfl)
  | _, _, _, .insO h b g e r, d => nomatch d
theorem RVs.weakB (nb : ∀ b, B' b → B b ∧ b ∉ G) : ∀ {xs : List PV} {vs : List V} {F : List Addr}, RVs K mg H B xs vs F → F = [] → RVs K mg H B' xs vs []
  | _, _, _, .nil, _ => .nil
  | _, _, _, .cons r t, d => .cons (F := []) (G := []) (RV.weakB nb r (List.append_eq_nil_iff.mp d).1) (RVs.weakB nb t (List.append_eq_nil_iff.mp d).2)
end

theorem RV.frz (nb : ∀ b, B' b → B b ∧ b ∉ F) (r : RV K mg H B x v F) : RV K mg H B' x.frz v [] := by
  unfold PV.frz
  split
  · rename_i h
    obtain rfl := r.pure h
    exact RV.weakB (G := []) nb r rfl
  · exact RV.frzD nb r fun b hb => hb

theorem RVs.length (r : RVs K mg H B xs vs F) : xs.length = vs.length := by
  induction xs generalizing vs F with
  | nil => cases r; rfl
  | cons x xs ih => cases r with | cons a b => simp [ih b]
/-- the i-th item -/
theorem RVs.at : ∀ {xs : List PV} {vs : List V} {F : List Addr} {i : Nat} {x : PV}, RVs K mg H B xs vs F → xs[i]? = some x →
    ∃ v F1 G F2, vs[i]? = some v ∧ RV K mg H B x v G ∧ F = F1 ++ G ++ F2 ∧ ∀ x' v' G', RV K mg H B x' v' G' → RVs K mg H B (xs.set i x') (vs.set i v') (F1 ++ G' ++ F2)
  | _, _, _, _, _, .nil, e => by simp at e
  | _, _, _, 0, x, .cons (F := F) (G := G) r t, e => by
    simp at e
    subst e
    refine ⟨_, [], F, G, rfl, r, by simp, fun x' v' G' r' => ?_⟩
    simpa using RVs.cons r' t
  | _, _, _, i + 1, x, .cons (F := F) (G := G) r t, e => by
    obtain ⟨v, F1, G1, F2, h1, h2, h3, h4⟩ := RVs.at (i := i) t (by simpa using e)
    refine ⟨v, F ++ F1, G1, F2, by simpa using h1, h2, by rw [h3]; simp, fun x' v' G' r' => ?_⟩
    have := RVs.cons r (h4 x' v' G' r')
    simpa using this
theorem RVs.none_of (r : RVs K mg H B xs vs F) {i : Nat} (e : xs[i]? = none) : vs[i]? = none := by
  have := r.length
  rw [List.getElem?_eq_none_iff] at e ⊢
  omega
theorem RVs.append : ∀ {xs ys : List PV} {vs us : List V} {F G : List Addr}, RVs K mg H B xs vs F → RVs K mg H B ys us G → RVs K mg H B (xs ++ ys) (vs ++ us) (F ++ G)
  | _, _, _, _, _, _, .nil, s => s
  | _, _, _, _, _, _, .cons r t, s => by
    have := RVs.cons r (RVs.append t s)
    simpa using this
theorem RVs.pureAt (r : RVs K mg H B xs vs []) : ∀ {i : Nat} {x : PV} {v : V}, xs[i]? = some x → vs[i]? = some v → RV K mg H B x v [] := fun {i x v} e1 e2 => by
  obtain ⟨v', F1, G, F2, h1, h2, h3, _⟩ := r.at e1
  rw [e2] at h1
  cases h1
  have : G = [] := by
    have := h3.symm
    simp at this
    exact this.2.1
  rw [this] at h2
  exact h2
theorem RVs.take : ∀ {xs : List PV} {vs : List V} {n : Nat}, RVs K mg H B xs vs [] → RVs K mg H B (xs.take n) (vs.take n) []
  | _, _, 0, _ => by simp; exact .nil
  | _, _, n + 1, r => by
    generalize hF : ([] : List Addr) = F at r
    cases r with
    | nil => exact .nil
    | cons r t =>
      obtain ⟨rfl, rfl⟩ := List.append_eq_nil_iff.mp hF.symm
      exact .cons (F := []) (G := []) r (RVs.take t)
theorem RVs.drop : ∀ {xs : List PV} {vs : List V} {n : Nat}, RVs K mg H B xs vs [] → RVs K mg H B (xs.drop n) (vs.drop n) []
  | _, _, 0, r => r
  | _, _, n + 1, r => by
    generalize hF : ([] : List Addr) = F at r
    cases r with
    | nil => exact .nil
    | cons r t =>
      obtain ⟨rfl, rfl⟩ := List.append_eq_nil_iff.mp hF.symm
      exact RVs.drop (n := n) t

/-! ### from state to state -/
theorem Keep.refl : Keep W H B H B := fun _ _ e _ => ⟨e, Iff.rfl⟩
theorem Keep.mono {W' : List Addr} (k : Keep W H B H' B') (h : ∀ b ∈ W, b ∈ W') : Keep W' H B H' B' := fun b o e n => k b o e fun z => n (h b z)
structure Step (H : Hp) (B : Addr → Prop) (F : List Addr) (H' : Hp) (B' : Addr → Prop) (F' : List Addr) : Prop where
  own : ∀ b ∈ F', b ∈ F ∨ H b = none
  keep : Keep F H B H' B'
theorem Step.refl : Step H B F H B F := ⟨fun _ h => .inl h, Keep.refl⟩
theorem Step.trans {H1 H2 : Hp} {B1 B2 : Addr → Prop} {F1 F2 : List Addr} (a : Step H B F H1 B1 F1) (b : Step H1 B1 F1 H2 B2 F2) : Step H B F H2 B2 F2 where
  own := fun c hc => by
    rcases b.own c hc with h | h
    · exact a.own c h
    · by_cases hF : c ∈ F
      · exact .inl hF
      · cases e : H c with
        | none => exact .inr rfl
        | some o => rw [(a.keep c o e hF).1] at h; cases h
  keep := fun c o e n => by
    obtain ⟨e1, i1⟩ := a.keep c o e n
    obtain ⟨e2, i2⟩ := b.keep c o e1 fun z => by
      rcases a.own c z with q | q
      · exact n q
      · rw [e] at q; cases q
    exact ⟨e2, i2.trans i1⟩
/-- less is owned behind it -/
theorem Step.less {F1 F2 : List Addr} (a : Step H B F H' B' F1) (h : ∀ b ∈ F2, b ∈ F1) : Step H B F H' B' F2 := ⟨fun b hb => a.own b (h b hb), a.keep⟩
theorem Step.congrF {F1 F2 : List Addr} (a : Step H B F H' B' F1) (h : ∀ b, b ∈ F ↔ b ∈ F2) : Step H B F2 H' B' F1 := ⟨fun b hb => (a.own b hb).imp (h b).mp id, a.keep.mono fun b hb => (h b).mp hb⟩
/-- something that is owned stands beside -/
theorem Step.beside {F1 : List Addr} (a : Step H B F H' B' F1) (W : List Addr) : Step H B (W ++ F) H' B' (W ++ F1) where
  own := fun b hb => (List.mem_append.mp hb).elim (fun z => .inl (List.mem_append_left _ z)) fun z => (a.own b z).elim (fun q => .inl (List.mem_append_right _ q)) .inr
  keep := a.keep.mono fun b hb => List.mem_append_right _ hb
theorem Keep.trans0 {H1 H2 : Hp} {B1 B2 : Addr → Prop} (a : Keep [] H B H1 B1) (b : Keep [] H1 B1 H2 B2) : Keep [] H B H2 B2 := fun c o e n => by
  obtain ⟨e1, i1⟩ := a c o e n
  obtain ⟨e2, i2⟩ := b c o e1 n
  exact ⟨e2, i2.trans i1⟩
theorem MutW.nil : MutW [] H B := fun _ h => nomatch h
theorem RV.keep0 (k : Keep [] H B H' B') (r : RV K mg H B x v F) : RV K mg H' B' x v F := r.keep k MutW.nil fun _ _ h => nomatch h
theorem RVs.keep0 (k : Keep [] H B H' B') (r : RVs K mg H B xs vs F) : RVs K mg H' B' xs vs F := r.keep k MutW.nil fun _ _ h => nomatch h
/-- a new object -/
theorem Keep.new {p : Addr} {o : HO} (h : H p = none) : Keep [] H B (upd H p o) B := fun b u e _ => ⟨by rw [upd_ne (ne_of_none e h)]; exact e, Iff.rfl⟩
/-- a new object that is owned -/
def own1 (B : Addr → Prop) (p : Addr) : Addr → Prop := fun b => b = p ∨ B b
theorem Keep.newO {p : Addr} {o : HO} (h : H p = none) : Keep [] H B (upd H p o) (own1 B p) := fun b u e _ => by
  have hb : b ≠ p := ne_of_none e h
  exact ⟨by rw [upd_ne hb]; exact e, ⟨fun z => z.elim (fun q => absurd q hb) id, .inr⟩⟩
/-- a new object that is not -/
def not1 (B : Addr → Prop) (p : Addr) : Addr → Prop := fun b => b ≠ p ∧ B b
theorem Keep.newF {p : Addr} {o : HO} (h : H p = none) : Keep [] H B (upd H p o) (not1 B p) := fun b u e _ => by
  have hb : b ≠ p := ne_of_none e h
  exact ⟨by rw [upd_ne hb]; exact e, ⟨fun z => z.2, fun z => ⟨hb, z⟩⟩⟩
end

/-! ### a def's names -/
/-- what a name holds: nothing; a value of its own; an argument that the caller owns -/
inductive Slot where
  | un
  | val (v : PV)
  | ref (v : PV)
abbrev Rho := List Slot
abbrev Sg := List (Option V)
section
variable (K : PySem.W.Frag) (mg : Str → Option Value) (H : Hp) (B : Addr → Prop)
inductive RSl : Slot → Option V → V → List Addr → Prop
  | un {y : Option V} {p : V} : RSl .un y p []
  | val {v : PV} {x p : V} {F : List Addr} : RV K mg H B v x F → RSl (.val v) (some x) p F
  | ref {v : PV} {p : V} {F : List Addr} : RV K mg H B v p F → RSl (.ref v) (some p) p F
inductive RSs : Rho → Sg → List V → List Addr → Prop
  | nil : RSs [] [] [] []
  | cons {s : Slot} {y : Option V} {p : V} {ρ : Rho} {σ : Sg} {P : List V} {F G : List Addr} : RSl K mg H B s y p F → RSs ρ σ P G → RSs (s :: ρ) (y :: σ) (p :: P) (F ++ G)
/-- the names stand -/
structure Rel (P : List V) (ρ : Rho) (σ : Sg) (F : List Addr) : Prop where
  slots : RSs K mg H B ρ σ P F
  nd : F.Nodup
end
section
variable {K : PySem.W.Frag} {mg : Str → Option Value} {H H' : Hp} {B B' : Addr → Prop} {x : PV} {xs : List PV} {v : V} {vs : List V} {F G W : List Addr} {P : List V} {ρ : Rho} {σ : Sg}
theorem RSs.keep (k : Keep W H B H' B') (m : MutW W H B) : ∀ {ρ : Rho} {σ : Sg} {P : List V} {F : List Addr}, RSs K mg H B ρ σ P F → (∀ b ∈ F, b ∉ W) → RSs K mg H' B' ρ σ P F
  | _, _, _, _, .nil, _ => .nil
  | _, _, _, _, .cons .un t, d => .cons .un (RSs.keep k m t d)
  | _, _, _, _, .cons (.val r) t, d => .cons (.val (r.keep k m fun b hb => d b (List.mem_append_left _ hb))) (RSs.keep k m t fun b hb => d b (List.mem_append_right _ hb))
  | _, _, _, _, .cons (.ref r) t, d => .cons (.ref (r.keep k m fun b hb => d b (List.mem_append_left _ hb))) (RSs.keep k m t fun b hb => d b (List.mem_append_right _ hb))
theorem RSs.keep1 {s : Slot} {y : Option V} {p : V} (k : Keep W H B H' B') (m : MutW W H B) (r : RSl K mg H B s y p F) (d : ∀ b ∈ F, b ∉ W) : RSl K mg H' B' s y p F := by
  cases r with
  | un => exact .un
  | val r => exact .val (r.keep k m d)
  | ref r => exact .ref (r.keep k m d)
theorem RSs.mut : ∀ {ρ : Rho} {σ : Sg} {P : List V} {F : List Addr}, RSs K mg H B ρ σ P F → MutW F H B
  | _, _, _, _, .nil => fun _ h => nomatch h
  | _, _, _, _, .cons .un t => RSs.mut t
  | _, _, _, _, .cons (.val r) t => fun c hc => (List.mem_append.mp hc).elim (r.mut c) (RSs.mut t c)
  | _, _, _, _, .cons (.ref r) t => fun c hc => (List.mem_append.mp hc).elim (r.mut c) (RSs.mut t c)
theorem RSs.lens : ∀ {ρ : Rho} {σ : Sg} {P : List V} {F : List Addr}, RSs K mg H B ρ σ P F → ρ.length = σ.length ∧ ρ.length = P.length
  | _, _, _, _, .nil => ⟨rfl, rfl⟩
  | _, _, _, _, .cons _ t => by simp [(RSs.lens t).1, ← (RSs.lens t).2]
/-- the i-th name; the other ones over a step that does not touch them -/
theorem RSs.at : ∀ {ρ : Rho} {σ : Sg} {P : List V} {F : List Addr} {i : Nat} {s : Slot}, RSs K mg H B ρ σ P F → ρ[i]? = some s →
    ∃ y p F1 G F2, σ[i]? = some y ∧ P[i]? = some p ∧ RSl K mg H B s y p G ∧ F = F1 ++ G ++ F2 ∧
      ∀ (H' : Hp) (B' : Addr → Prop) (W : List Addr), Keep W H B H' B' → MutW W H B → (∀ b ∈ F1, b ∉ W) → (∀ b ∈ F2, b ∉ W) →
        (∀ s' G', RSl K mg H' B' s' y p G' → RSs K mg H' B' (ρ.set i s') σ P (F1 ++ G' ++ F2)) ∧
        ∀ s' y' G', RSl K mg H' B' s' y' p G' → RSs K mg H' B' (ρ.set i s') (σ.set i y') P (F1 ++ G' ++ F2)
  | _, _, _, _, _, _, .nil, e => by simp at e
  | _, _, _, _, 0, s, .cons (F := F) (G := G) r t, e => by
    simp at e
    subst e
    refine ⟨_, _, [], F, G, rfl, rfl, r, by simp, fun H' B' W k m d1 d2 => ?_⟩
    have t' := t.keep k m d2
    exact ⟨fun s' G' r' => by simpa using RSs.cons r' t', fun s' y' G' r' => by simpa using RSs.cons r' t'⟩
  | _, _, _, _, i + 1, s, .cons (F := F) (G := G) r t, e => by
    obtain ⟨y, p, F1, G1, F2, h1, hp, h2, h3, h4⟩ := RSs.at (i := i) t (by simpa using e)
    refine ⟨y, p, F ++ F1, G1, F2, by simpa using h1, by simpa using hp, h2, by rw [h3]; simp, fun H' B' W k m d1 d2 => ?_⟩
    obtain ⟨k1, k2⟩ := h4 H' B' W k m (fun b hb => d1 b (List.mem_append_right _ hb)) d2
    have r' := RSs.keep1 k m r fun b hb => d1 b (List.mem_append_left _ hb)
    exact ⟨fun s' G' q => by simpa using RSs.cons r' (k1 s' G' q), fun s' y' G' q => by simpa using RSs.cons r' (k2 s' y' G' q)⟩
/-- every name has its place -/
theorem RSs.get (r : RSs K mg H B ρ σ P F) {i : Nat} (h : i < σ.length) : ∃ s, ρ[i]? = some s := by
  have := r.lens.1
  exact ⟨ρ[i], by rw [List.getElem?_eq_getElem]⟩
end
end GX

/-! GX: the judgements over HandS's PE, PA, PT; operands. -/
namespace GX
open PySem PySem.Spec PyProof.Rows L2

abbrev M (α : Type) := Rho → Option (α × Rho)
/-- an operand: a name (looked at when it is used), a value of its own, a value that is part of a name's -/
inductive Opd where
  | sl (i : Nat)
  | tm (v : PV)
  | pk (v : PV)
abbrev O := M Opd
def Slot.get : Slot → Option PV
  | .un => none
  | .val v => some v
  | .ref v => some v
def deref : Opd → Rho → Option PV
  | .tm v, _ => some v
  | .pk v, _ => some v
  | .sl i, ρ => (ρ[i]?).bind Slot.get
def derefs : List Opd → Rho → Option (List PV)
  | [], _ => some []
  | o :: os, ρ => (deref o ρ).bind fun v => (derefs os ρ).bind fun vs => some (v :: vs)

section
variable (q : Bool) (K : PySem.W.Frag) (mg : Str → Option Value) (P : List V)
/-- behind an expression -/
structure PoE (σ : Sg) (ρ : Rho) (H : Hp) (B : Addr → Prop) (F : List Addr) (v : PV) (ρ' : Rho) (x : V) (H' : Hp) (B' : Addr → Prop) (G F' : List Addr) : Prop where
  rv : RV K mg H' B' v x G
  sl : RSs K mg H' B' ρ' σ P F'
  nd : (G ++ F').Nodup
  st : Step H B F H' B' (G ++ F')
  ro : q = true → ρ' = ρ ∧ F' = F ∧ Keep [] H B H' B'
def tE (f : M PV) : TE := fun σ H Q => ∃ ρ B F v ρ', Rel K mg H B P ρ σ F ∧ f ρ = some (v, ρ') ∧ ∀ x H' B' G F', PoE q K mg P σ ρ H B F v ρ' x H' B' G F' → Q x H'
/-- an operand as it stands -/
def OV (σ : Sg) (H : Hp) (B : Addr → Prop) (F : List Addr) : Opd → V → List Addr → Prop
  | .sl i, x, G => σ[i]? = some (some x) ∧ G = []
  | .tm v, x, G => RV K mg H B v x G
  | .pk v, x, G => G = [] ∧ ∃ W, RV K mg H B v x W ∧ ∀ b ∈ W, b ∈ F
structure PoO (σ : Sg) (ρ : Rho) (H : Hp) (B : Addr → Prop) (F : List Addr) (o : Opd) (ρ' : Rho) (x : V) (H' : Hp) (B' : Addr → Prop) (G F' : List Addr) : Prop where
  ov : OV K mg σ H' B' F' o x G
  sl : RSs K mg H' B' ρ' σ P F'
  nd : (G ++ F').Nodup
  st : Step H B F H' B' (G ++ F')
  ro : q = true → ρ' = ρ ∧ F' = F ∧ Keep [] H B H' B'
def tO (f : O) : TE := fun σ H Q => ∃ ρ B F o ρ', Rel K mg H B P ρ σ F ∧ f ρ = some (o, ρ') ∧ ∀ x H' B' G F', PoO q K mg P σ ρ H B F o ρ' x H' B' G F' → Q x H'
inductive OVs (σ : Sg) (H : Hp) (B : Addr → Prop) (F : List Addr) : List Opd → List V → List Addr → Prop
  | nil : OVs σ H B F [] [] []
  | cons {o : Opd} {os : List Opd} {x : V} {xs : List V} {G Gs : List Addr} : OV K mg σ H B F o x G → OVs σ H B F os xs Gs → OVs σ H B F (o :: os) (x :: xs) (G ++ Gs)
structure PoA (σ : Sg) (ρ : Rho) (H : Hp) (B : Addr → Prop) (F : List Addr) (os : List Opd) (ρ' : Rho) (xs : List V) (H' : Hp) (B' : Addr → Prop) (G F' : List Addr) : Prop where
  ov : OVs K mg σ H' B' F' os xs G
  sl : RSs K mg H' B' ρ' σ P F'
  nd : (G ++ F').Nodup
  st : Step H B F H' B' (G ++ F')
  ro : q = true → ρ' = ρ ∧ F' = F ∧ Keep [] H B H' B'
def tA (f : M (List Opd)) : TA := fun σ H Q => ∃ ρ B F os ρ', Rel K mg H B P ρ σ F ∧ f ρ = some (os, ρ') ∧ ∀ xs H' B' G F', PoA q K mg P σ ρ H B F os ρ' xs H' B' G F' → Q xs H'
structure PoT (σ : Sg) (ρ : Rho) (H : Hp) (B : Addr → Prop) (F : List Addr) (ρ' : Rho) (H' : Hp) (B' : Addr → Prop) (F' : List Addr) : Prop where
  sl : RSs K mg H' B' ρ' σ P F'
  nd : F'.Nodup
  st : Step H B F H' B' F'
  ro : q = true → ρ' = ρ ∧ F' = F ∧ Keep [] H B H' B'
def tT (f : M Bool) : TT := fun σ H Q => ∃ ρ B F b ρ', Rel K mg H B P ρ σ F ∧ f ρ = some (b, ρ') ∧ ∀ H' B' F', PoT q K mg P σ ρ H B F ρ' H' B' F' → Q b H'
end

/-! ### weakening -/
theorem PE.weak {X : Cx} {e : Expr} {t t' : TE} (h : PE X e t) (w : ∀ σ H Q, t' σ H Q → t σ H Q) : PE X e t' := ⟨fun pins s σ H Q I q => h.run pins s σ H Q I (w σ H Q q)⟩
theorem PT.weak {X : Cx} {e : Expr} {t t' : TT} (h : PT X e t) (w : ∀ σ H Q, t' σ H Q → t σ H Q) : PT X e t' := ⟨fun pins s σ H Q I q => h.run pins s σ H Q I (w σ H Q q)⟩
theorem PW.weak {X : Cx} {e : Expr} {t t' : TT} (h : PW X e t) (w : ∀ σ H Q, t' σ H Q → t σ H Q) : PW X e t' := ⟨fun whole pins s σ H Q I q => h.run whole pins s σ H Q I (w σ H Q q)⟩
theorem PA.weak {X : Cx} {e : List Expr} {t t' : TA} (h : PA X e t) (w : ∀ σ H Q, t' σ H Q → t σ H Q) : PA X e t' := ⟨fun pos pins s σ H Q I q => h.run pos pins s σ H Q I (w σ H Q q)⟩
theorem PS.weak {X : Cx} {e : Stmt} {t t' : TS} (h : PS X e t) (w : ∀ D σ H, t' D σ H → t D σ H) : PS X e t' := ⟨fun pins s σ H D I q => h.run pins s σ H D I (w D σ H q)⟩
theorem PSs.weak {X : Cx} {e : List Stmt} {t t' : TS} (h : PSs X e t) (w : ∀ D σ H, t' D σ H → t D σ H) : PSs X e t' := ⟨fun pins s σ H D I q => h.run pins s σ H D I (w D σ H q)⟩
theorem PG.weak {X : Cx} {e : Expr} {t t' : TG} (h : PG X e t) (w : ∀ v σ H Q, t' v σ H Q → t v σ H Q) : PG X e t' := ⟨fun pins s σ H v u Q I r q => h.run pins s σ H v u Q I r (w v σ H Q q)⟩

section
variable {q : Bool} {K : PySem.W.Frag} {mg : Str → Option Value} {P : List V} {H H' H1 H2 : Hp} {B B' B1 B2 : Addr → Prop} {x y : V} {v w : PV} {xs : List PV} {vs : List V} {F F' F1 F2 G G1 G2 W : List Addr} {ρ ρ' ρ1 ρ2 : Rho} {σ : Sg} {o : Opd} {os : List Opd}

theorem nodup_r {A B : List Addr} (h : (A ++ B).Nodup) : B.Nodup := (List.nodup_append.mp h).2.1
theorem nodup_l {A B : List Addr} (h : (A ++ B).Nodup) : A.Nodup := (List.nodup_append.mp h).1
theorem nodup_ne {A B : List Addr} (h : (A ++ B).Nodup) : ∀ b ∈ A, b ∉ B := fun b h1 h2 => (List.nodup_append.mp h).2.2 b h1 b h2 rfl

theorem PoE.rel (p : PoE q K mg P σ ρ H B F v ρ' x H' B' G F') : Rel K mg H' B' P ρ' σ F' := ⟨p.sl, nodup_r p.nd⟩
theorem PoO.rel (p : PoO q K mg P σ ρ H B F o ρ' x H' B' G F') : Rel K mg H' B' P ρ' σ F' := ⟨p.sl, nodup_r p.nd⟩
theorem PoA.rel {xs : List V} (p : PoA q K mg P σ ρ H B F os ρ' xs H' B' G F') : Rel K mg H' B' P ρ' σ F' := ⟨p.sl, nodup_r p.nd⟩
theorem PoT.rel (p : PoT q K mg P σ ρ H B F ρ' H' B' F') : Rel K mg H' B' P ρ' σ F' := ⟨p.sl, p.nd⟩

/-- an owned temporary beside a step that does not touch it -/
theorem RV.over (r : RV K mg H1 B1 v x G) (nd : (G ++ F1).Nodup) (m : MutW F1 H1 B1) (st : Keep F1 H1 B1 H2 B2) : RV K mg H2 B2 v x G :=
  r.keep st m fun b hb => nodup_ne nd b hb
theorem nodup_beside (nd1 : (G ++ F1).Nodup) (r : MutW G H1 B1) (nd2 : F2.Nodup) (st : Step H1 B1 F1 H2 B2 F2) : (G ++ F2).Nodup := by
  refine List.nodup_append.mpr ⟨nodup_l nd1, nd2, fun a ha b hb e => ?_⟩
  subst e
  rcases st.own a hb with h | h
  · exact nodup_ne nd1 a ha h
  · have := (r a ha).2
    rw [h] at this
    exact this

/-- what an operand's value is where it is used -/
theorem OV.deref (h : OV K mg σ H B F o x G) (s : RSs K mg H B ρ σ P F) (e : deref o ρ = some v) : ∃ W, RV K mg H B v x W ∧ ∀ b ∈ W, b ∈ G ++ F := by
  cases o with
  | tm u =>
    have e : some u = some v := e
    cases e
    exact ⟨G, h, fun b hb => List.mem_append_left _ hb⟩
  | pk u =>
    have e : some u = some v := e
    cases e
    obtain ⟨rfl, W, r, m⟩ := h
    exact ⟨W, r, fun b hb => List.mem_append_right _ (m b hb)⟩
  | sl i =>
    obtain ⟨h1, rfl⟩ := h
    have e : (ρ[i]?).bind Slot.get = some v := e
    cases e1 : ρ[i]? with
    | none => rw [e1] at e; cases e
    | some s' =>
      rw [e1] at e
      obtain ⟨y, p, Fa, Ga, Fb, z1, _, z2, z3, z4⟩ := s.at e1
      rw [h1] at z1
      cases z1
      have sub : ∀ b ∈ Ga, b ∈ ([] : List Addr) ++ F := fun b hb => by rw [z3]; simp [hb]
      cases z2 with
      | un => cases e
      | val r => cases e; exact ⟨Ga, r, sub⟩
      | ref r => cases e; exact ⟨Ga, r, sub⟩
/-- an operand beside a step -/
theorem OV.over (h : OV K mg σ H1 B1 F1 o x G) (nd : (G ++ F1).Nodup) (m : MutW F1 H1 B1) (st : Keep F1 H1 B1 H2 B2) (np : (∀ v, o ≠ .pk v) ∨ (F2 = F1 ∧ Keep [] H1 B1 H2 B2)) : OV K mg σ H2 B2 F2 o x G := by
  cases o with
  | tm u => exact RV.over h nd m st
  | sl i => exact h
  | pk u =>
    rcases np with np | ⟨rfl, k⟩
    · exact absurd rfl (np u)
    · obtain ⟨e, W, r, z⟩ := h
      exact ⟨e, W, r.keep0 k, z⟩
theorem OV.mut (h : OV K mg σ H B F o x G) : MutW G H B := by
  cases o with
  | tm u => exact RV.mut h
  | sl i => obtain ⟨_, rfl⟩ := h; exact MutW.nil
  | pk u => obtain ⟨rfl, _⟩ := h; exact MutW.nil

/-! ### operands -/
def oSl (i : Nat) : O := fun ρ => ((ρ[i]?).bind Slot.get).bind fun _ => some (.sl i, ρ)
def oTm (f : M PV) : O := fun ρ => (f ρ).bind fun r => some (.tm r.1, r.2)
def oNil : M (List Opd) := fun ρ => some ([], ρ)
def oCons (a : O) (r : M (List Opd)) : M (List Opd) := fun ρ => (a ρ).bind fun z => (r z.2).bind fun z2 => some (z.1 :: z2.1, z2.2)

theorem bind_some {α β : Type} {a : Option α} {f : α → Option β} {b : β} (h : a.bind f = some b) : ∃ z, a = some z ∧ f z = some b := by
  cases a with
  | none => cases h
  | some z => exact ⟨z, rfl, h⟩
theorem slot_at {i : Nat} {u : PV} (s : RSs K mg H B ρ σ P F) (e : (ρ[i]?).bind Slot.get = some u) : ∃ x, σ[i]? = some (some x) := by
  obtain ⟨s', e1, e2⟩ := bind_some e
  obtain ⟨y, p, Fa, Ga, Fb, z1, _, z2, _⟩ := s.at e1
  cases z2 with
  | un => cases e2
  | val r => exact ⟨_, z1⟩
  | ref r => exact ⟨_, z1⟩
/-- never a part of a name's value -/
def NoPk (f : O) : Prop := ∀ ρ o ρ', f ρ = some (o, ρ') → ∀ v, o ≠ .pk v
theorem nopk_sl {i : Nat} : NoPk (oSl i) := fun ρ o ρ' e v h => by
  obtain ⟨u, z1, z2⟩ := bind_some e
  subst h
  cases z2
theorem nopk_tm {f : M PV} : NoPk (oTm f) := fun ρ o ρ' e v h => by
  obtain ⟨u, z1, z2⟩ := bind_some e
  subst h
  cases z2
theorem go_sl {X : Cx} {e : Expr} {i : Nat} (h : PE X e (tVar i)) : PE X e (tO q K mg P (oSl i)) := by
  refine PE.weak h fun σ H Q ⟨ρ, B, F, o, ρ', R, e1, k⟩ => ?_
  obtain ⟨u, z1, z2⟩ := bind_some e1
  cases z2
  obtain ⟨x, hx⟩ := slot_at R.slots z1
  exact ⟨x, hx, k x H B [] F ⟨⟨hx, rfl⟩, R.slots, R.nd, Step.refl, fun _ => ⟨rfl, rfl, Keep.refl⟩⟩⟩
theorem go_tm {X : Cx} {e : Expr} {f : M PV} (h : PE X e (tE q K mg P f)) : PE X e (tO q K mg P (oTm f)) := by
  refine PE.weak h fun σ H Q ⟨ρ, B, F, o, ρ', R, e1, k⟩ => ?_
  obtain ⟨⟨u, ρ1⟩, z1, z2⟩ := bind_some e1
  cases z2
  exact ⟨ρ, B, F, u, ρ1, R, z1, fun x H' B' G F' p => k x H' B' G F' ⟨p.rv, p.sl, p.nd, p.st, p.ro⟩⟩
theorem ga_nil {X : Cx} : PA X [] (tA q K mg P oNil) := by
  refine PA.weak pa_nil fun σ H Q ⟨ρ, B, F, os, ρ', R, e1, k⟩ => ?_
  cases e1
  exact k [] H B [] F ⟨.nil, R.slots, R.nd, Step.refl, fun _ => ⟨rfl, rfl, Keep.refl⟩⟩
theorem ga_one {X : Cx} {e : Expr} {f : O} (h : PE X e (tO q K mg P f)) (hs : starEach [e] X.env = (false, eval e X.env) :: starEach [] X.env := by rfl) : PA X [e] (tA q K mg P (oCons f oNil)) := by
  refine PA.weak (pa_cons h pa_nil hs) fun σ H Q ⟨ρ, B, F, os, ρ', R, e1, k⟩ => ?_
  obtain ⟨⟨o, ρ1⟩, z1, z2⟩ := bind_some e1
  cases z2
  refine ⟨ρ, B, F, o, ρ1, R, z1, fun x H1 B1 G1 F1 p1 => ?_⟩
  have e0 : G1 ++ [] = G1 := List.append_nil _
  exact k [x] H1 B1 (G1 ++ []) F1 ⟨.cons p1.ov .nil, p1.sl, by rw [e0]; exact p1.nd, by rw [e0]; exact p1.st, p1.ro⟩
theorem ga_cons {X : Cx} {e : Expr} {es : List Expr} {f : O} {fs : M (List Opd)} (h : PE X e (tO q K mg P f)) (hr : PA X es (tA q K mg P fs)) (hp : NoPk f ∨ q = true := by first | exact .inl nopk_sl | exact .inl nopk_tm | exact .inr rfl | assumption)
    (hs : starEach (e :: es) X.env = (false, eval e X.env) :: starEach es X.env := by rfl) : PA X (e :: es) (tA q K mg P (oCons f fs)) := by
  refine PA.weak (pa_cons h hr hs) fun σ H Q ⟨ρ, B, F, os, ρ', R, e1, k⟩ => ?_
  obtain ⟨⟨o, ρ1⟩, z1, z2⟩ := bind_some e1
  obtain ⟨⟨os', ρ2⟩, z3, z4⟩ := bind_some z2
  cases z4
  refine ⟨ρ, B, F, o, ρ1, R, z1, fun x H1 B1 G1 F1 p1 => ?_⟩
  refine ⟨ρ1, B1, F1, os', ρ2, p1.rel, z3, fun xs H2 B2 G2 F2 p2 => ?_⟩
  have m1 := p1.sl.mut
  have np : (∀ v, o ≠ .pk v) ∨ (F2 = F1 ∧ Keep [] H1 B1 H2 B2) := hp.imp (fun n => n _ _ _ z1) fun e => (p2.ro e).2
  have ov := p1.ov.over p1.nd m1 (p2.st.keep) np
  refine k (x :: xs) H2 B2 (G1 ++ G2) F2 ⟨.cons ov p2.ov, p2.sl, ?_, ?_, fun e => ?_⟩
  · rw [List.append_assoc]
    exact nodup_beside p1.nd p1.ov.mut p2.nd p2.st
  · rw [List.append_assoc]
    exact p1.st.trans (p2.st.beside G1)
  · obtain ⟨a1, a2, a3⟩ := p1.ro e
    obtain ⟨b1, b2, b3⟩ := p2.ro e
    exact ⟨b1.trans a1, b2.trans a2, a3.trans0 b3⟩

/-! ### names, constants -/
/-- a name as a value: what it owns is frozen there -/
def cName (i : Nat) : M PV := fun ρ => (ρ[i]?).bind fun s => match s with
  | .un => none
  | .val v => if v.pure then some (v, ρ) else some (v.frz, ρ.set i (.val v.frz))
  | .ref v => if v.pure then some (v, ρ) else some (v.frz, ρ.set i (.ref v.frz))
/-- .. that owns nothing -/
def cNameR (i : Nat) : M PV := fun ρ => ((ρ[i]?).bind Slot.get).bind fun v => if v.pure then some (v, ρ) else none
def cC (v : PV) : M PV := fun ρ => some (v, ρ)
theorem ge_const {X : Cx} {e : Expr} {v : PV} {x : V} (h : PE X e (tC x)) (r : ∀ H B, RV K mg H B v x []) : PE X e (tE q K mg P (cC v)) := by
  refine PE.weak h fun σ H Q ⟨ρ, B, F, u, ρ', R, e1, k⟩ => ?_
  cases e1
  exact k x H B [] F ⟨r H B, R.slots, R.nd, Step.refl, fun _ => ⟨rfl, rfl, Keep.refl⟩⟩
theorem ge_int {X : Cx} {i j pos} : PE X (.Constant (.int i) j pos) (tE q K mg P (cC (.int i))) := ge_const pe_int fun _ _ => .int i
theorem ge_bl {X : Cx} {i j pos} : PE X (.Constant (.bool i) j pos) (tE q K mg P (cC (.bl i))) := ge_const pe_bl fun _ _ => .bl i
theorem ge_non {X : Cx} {j pos} : PE X (.Constant .none j pos) (tE q K mg P (cC .non)) := ge_const pe_non fun _ _ => .non
theorem ge_str {X : Cx} {i j pos} : PE X (.Constant (.str i) j pos) (tE q K mg P (cC (.str i))) := ge_const pe_str fun _ _ => .str i
theorem pure_get {i : Nat} {u : PV} {x : V} (s : RSs K mg H B ρ σ P F) (e : (ρ[i]?).bind Slot.get = some u) (hp : u.pure = true) (hx : σ[i]? = some (some x)) : RV K mg H B u x [] := by
  obtain ⟨W, r, _⟩ := OV.deref (o := .sl i) (x := x) (G := []) ⟨hx, rfl⟩ s e
  have := r.pure hp
  subst this
  exact r
theorem ge_nameR {X : Cx} {e : Expr} {i : Nat} (h : PE X e (tVar i)) : PE X e (tE q K mg P (cNameR i)) := by
  refine PE.weak h fun σ H Q ⟨ρ, B, F, u, ρ', R, e1, k⟩ => ?_
  obtain ⟨w, z1, z2⟩ := bind_some e1
  split at z2
  · rename_i hp
    cases z2
    obtain ⟨x, hx⟩ := slot_at R.slots z1
    exact ⟨x, hx, k x H B [] F ⟨pure_get R.slots z1 hp hx, R.slots, R.nd, Step.refl, fun _ => ⟨rfl, rfl, Keep.refl⟩⟩⟩
  · cases z2
theorem nodup_mid {A C : List Addr} (h : (A ++ G ++ C).Nodup) : (A ++ [] ++ C).Nodup := by
  refine List.Nodup.sublist ?_ h
  simp
theorem mid_sub {A C : List Addr} : ∀ b ∈ A ++ [] ++ C, b ∈ A ++ G ++ C := fun b hb => by
  simp at hb ⊢
  rcases hb with h | h
  · exact .inl h
  · exact .inr (.inr h)
theorem freeze_keep : Keep G H B H (fun b => B b ∧ b ∉ G) := fun b o e n => ⟨e, ⟨fun z => z.1, fun z => ⟨z, n⟩⟩⟩
theorem frz_slot {i : Nat} {v : PV} {s1 : Slot} {s0 : Slot} (R : Rel K mg H B P ρ σ F) (e : ρ[i]? = some s0)
    (c : (s0 = .val v ∧ s1 = .val v.frz) ∨ (s0 = .ref v ∧ s1 = .ref v.frz)) :
    ∃ x B' F', σ[i]? = some (some x) ∧ RV K mg H B' v.frz x [] ∧ RSs K mg H B' (ρ.set i s1) σ P F' ∧ F'.Nodup ∧ Step H B F H B' F' := by
  obtain ⟨y, p, F1, G, F2, h1, h2, h3, h4, h5⟩ := R.slots.at e
  have nd := R.nd
  rw [h4] at nd
  obtain ⟨n1, n2⟩ : (∀ b ∈ F1, b ∉ G) ∧ (∀ b ∈ F2, b ∉ G) :=
    ⟨fun b hb => nodup_ne (nodup_l nd) b hb, fun b hb hg => nodup_ne nd b (List.mem_append_right _ hg) hb⟩
  have kp : Keep G H B H (fun b => B b ∧ b ∉ G) := freeze_keep
  have mu : MutW G H B := by
    rcases c with ⟨rfl, rfl⟩ | ⟨rfl, rfl⟩
    · cases h3 with | val r => exact r.mut
    · cases h3 with | ref r => exact r.mut
  obtain ⟨k1, _⟩ := h5 H _ G kp mu n1 n2
  have st : Step H B F H (fun b => B b ∧ b ∉ G) (F1 ++ [] ++ F2) := by
    refine ⟨fun b hb => .inl ?_, kp.mono fun b hb => ?_⟩
    · rw [h4]
      exact mid_sub b hb
    · rw [h4]
      simp [hb]
  rcases c with ⟨rfl, rfl⟩ | ⟨rfl, rfl⟩
  · cases h3 with
    | val r =>
      have rf := RV.frz (B' := fun b => B b ∧ b ∉ G) (fun b h => h) r
      exact ⟨_, _, _, h1, rf, k1 _ [] (.val rf), nodup_mid nd, st⟩
  · cases h3 with
    | ref r =>
      have rf := RV.frz (B' := fun b => B b ∧ b ∉ G) (fun b h => h) r
      exact ⟨_, _, _, h1, rf, k1 _ [] (.ref rf), nodup_mid nd, st⟩
theorem ge_name {X : Cx} {e : Expr} {i : Nat} (h : PE X e (tVar i)) : PE X e (tE false K mg P (cName i)) := by
  refine PE.weak h fun σ H Q ⟨ρ, B, F, u, ρ', R, e1, k⟩ => ?_
  obtain ⟨s', z1, z2⟩ := bind_some e1
  have same : ∀ w : PV, (ρ[i]?).bind Slot.get = some w → w.pure = true → (w, ρ) = (u, ρ') → tVar i σ H Q := fun w g hp e => by
    cases e
    obtain ⟨x, hx⟩ := slot_at R.slots g
    exact ⟨x, hx, k x H B [] F ⟨pure_get R.slots g hp hx, R.slots, R.nd, Step.refl, fun _ => ⟨rfl, rfl, Keep.refl⟩⟩⟩
  cases s' with
  | un => cases z2
  | val v =>
    by_cases hp : v.pure = true
    · exact same v (by rw [z1]; rfl) hp (by simpa [hp] using z2)
    · simp only [hp] at z2
      cases z2
      obtain ⟨x, B', F', g1, g2, g3, g4, g5⟩ := frz_slot (s1 := .val v.frz) R z1 (.inl ⟨rfl, rfl⟩)
      exact ⟨x, g1, k x H B' [] F' ⟨g2, g3, g4, g5, fun z => nomatch z⟩⟩
  | ref v =>
    by_cases hp : v.pure = true
    · exact same v (by rw [z1]; rfl) hp (by simpa [hp] using z2)
    · simp only [hp] at z2
      cases z2
      obtain ⟨x, B', F', g1, g2, g3, g4, g5⟩ := frz_slot (s1 := .ref v.frz) R z1 (.inr ⟨rfl, rfl⟩)
      exact ⟨x, g1, k x H B' [] F' ⟨g2, g3, g4, g5, fun z => nomatch z⟩⟩
end
end GX

/-! GX: operations on values. -/
namespace GX
open PySem PySem.Spec PyProof.Rows L2

section
variable (K : PySem.W.Frag) (mg : Str → Option Value)
/-- the value r comes, laid anew where it is an object -/
def New (H : Hp) (B : Addr → Prop) (r : PV) (Q : VK) : Prop := ∀ z H' B' G, RV K mg H' B' r z G → G.Nodup → (∀ b ∈ G, H b = none) → Keep [] H B H' B' → Q z H'
def rOp (g : PV → PV → Option PV) : R2 := fun x y H Q => ∃ B va vb Wa Wb r, RV K mg H B va x Wa ∧ RV K mg H B vb y Wb ∧ g va vb = some r ∧ New K mg H B r Q
def rUn (g : PV → Option PV) : V → Hp → VK → Prop := fun x H Q => ∃ B va Wa r, RV K mg H B va x Wa ∧ g va = some r ∧ New K mg H B r Q
def RX (H : Hp) (B : Addr → Prop) (v : PV) (x : V) : Prop := ∃ W, RV K mg H B v x W
def rCall (g : List PV → Option PV) : List V → Hp → VK → Prop := fun xs H Q => ∃ B vs r, Paired (RX K mg H B) vs xs ∧ g vs = some r ∧ New K mg H B r Q
def rTru (g : PV → Option Bool) : V → Hp → (Bool → Hp → Prop) → Prop := fun x H Q => ∃ B va Wa b, RV K mg H B va x Wa ∧ g va = some b ∧ Q b H
end

def cBin (g : PV → PV → Option PV) (a b : O) : M PV := fun ρ => (a ρ).bind fun z1 => (b z1.2).bind fun z2 => (deref z1.1 z2.2).bind fun va => (deref z2.1 z2.2).bind fun vb => (g va vb).bind fun r => some (r, z2.2)
def cUn (g : PV → Option PV) (a : O) : M PV := fun ρ => (a ρ).bind fun z1 => (deref z1.1 z1.2).bind fun va => (g va).bind fun r => some (r, z1.2)
def cCall (g : List PV → Option PV) (a : M (List Opd)) : M PV := fun ρ => (a ρ).bind fun z1 => (derefs z1.1 z1.2).bind fun vs => (g vs).bind fun r => some (r, z1.2)
def tTru (g : PV → Option Bool) (a : O) : M Bool := fun ρ => (a ρ).bind fun z1 => (deref z1.1 z1.2).bind fun va => (g va).bind fun r => some (r, z1.2)

section
variable {q : Bool} {K : PySem.W.Frag} {mg : Str → Option Value} {P : List V} {H H' H1 H2 : Hp} {B B' B1 B2 : Addr → Prop} {x y : V} {v w r : PV} {F F' F1 F2 G G1 G2 W : List Addr} {ρ ρ' ρ1 ρ2 : Rho} {σ : Sg}

theorem New.pure {Q : VK} {z : V} (h : New K mg H B r Q) (rv : RV K mg H B r z []) : Q z H := h z H B [] rv List.nodup_nil (fun _ h => nomatch h) Keep.refl
/-- behind an operation that reads -/
theorem fin_new {z : V} (ro : q = true → ρ2 = ρ ∧ F2 = F ∧ Keep [] H B H2 B2) (sl : RSs K mg H2 B2 ρ2 σ P F2) (nd : F2.Nodup) (st : Step H B F H2 B2 F2)
    (rv : RV K mg H' B' r z G) (ng : G.Nodup) (fr : ∀ b ∈ G, H2 b = none) (k : Keep [] H2 B2 H' B') : PoE q K mg P σ ρ H B F r ρ2 z H' B' G F2 where
  rv := rv
  sl := sl.keep k MutW.nil fun _ _ h => nomatch h
  nd := List.nodup_append.mpr ⟨ng, nd, fun a ha b hb e => by
    subst e
    have := (sl.mut a hb).2
    rw [fr a ha] at this
    exact this⟩
  st := st.trans ⟨fun b hb => (List.mem_append.mp hb).elim (fun z => .inr (fr b z)) .inl, k.mono fun _ h => nomatch h⟩
  ro := fun e => let ⟨a, b, c⟩ := ro e; ⟨a, b, c.trans0 k⟩

theorem bin_te {g : PV → PV → Option PV} {a b : O} {Q : VK} (hp : NoPk a ∨ q = true) (h : tE q K mg P (cBin g a b) σ H Q) : tOp (rOp K mg g) (tO q K mg P a) (tO q K mg P b) σ H Q := by
  obtain ⟨ρ, B, F, r, ρ', R, e1, k⟩ := h
  obtain ⟨⟨o1, ρ1⟩, z1, e1⟩ := bind_some e1
  obtain ⟨⟨o2, ρ2⟩, z2, e1⟩ := bind_some e1
  obtain ⟨va, d1, e1⟩ := bind_some e1
  obtain ⟨vb, d2, e1⟩ := bind_some e1
  obtain ⟨r, gr, e1⟩ := bind_some e1
  cases e1
  refine ⟨ρ, B, F, o1, ρ1, R, z1, fun x H1 B1 G1 F1 p1 => ?_⟩
  refine ⟨ρ1, B1, F1, o2, ρ2, p1.rel, z2, fun y H2 B2 G2 F2 p2 => ?_⟩
  have np : (∀ v, o1 ≠ .pk v) ∨ (F2 = F1 ∧ Keep [] H1 B1 H2 B2) := hp.imp (fun n => n _ _ _ z1) fun e => (p2.ro e).2
  have ov := p1.ov.over p1.nd p1.sl.mut p2.st.keep np
  obtain ⟨Wa, ra, _⟩ := ov.deref p2.sl d1
  obtain ⟨Wb, rb, _⟩ := p2.ov.deref p2.sl d2
  have st : Step H B F H2 B2 F2 := (p1.st.trans (p2.st.beside G1)).less fun b hb => List.mem_append_right _ (List.mem_append_right _ hb)
  refine ⟨B2, va, vb, Wa, Wb, r, ra, rb, gr, fun z H' B' G rv ng fr kp => k z H' B' G F2 ?_⟩
  exact fin_new (fun e => let ⟨a1, a2, a3⟩ := p1.ro e; let ⟨b1, b2, b3⟩ := p2.ro e; ⟨b1.trans a1, b2.trans a2, a3.trans0 b3⟩) p2.sl (nodup_r p2.nd) st rv ng fr kp
theorem un_te {g : PV → Option PV} {a : O} {Q : VK} (h : tE q K mg P (cUn g a) σ H Q) : tUn (rUn K mg g) (tO q K mg P a) σ H Q := by
  obtain ⟨ρ, B, F, r, ρ', R, e1, k⟩ := h
  obtain ⟨⟨o1, ρ1⟩, z1, e1⟩ := bind_some e1
  obtain ⟨va, d1, e1⟩ := bind_some e1
  obtain ⟨r, gr, e1⟩ := bind_some e1
  cases e1
  refine ⟨ρ, B, F, o1, ρ1, R, z1, fun x H1 B1 G1 F1 p1 => ?_⟩
  obtain ⟨Wa, ra, _⟩ := p1.ov.deref p1.sl d1
  refine ⟨B1, va, Wa, r, ra, gr, fun z H' B' G rv ng fr kp => k z H' B' G F1 ?_⟩
  exact fin_new p1.ro p1.sl (nodup_r p1.nd) (p1.st.less fun b hb => List.mem_append_right _ hb) rv ng fr kp
theorem ovs_derefs (s : RSs K mg H B ρ σ P F) : ∀ {os : List Opd} {xs : List V} {G : List Addr} {vs : List PV}, OVs K mg σ H B F os xs G → derefs os ρ = some vs → Paired (RX K mg H B) vs xs
  | [], _, _, _, .nil, e => by cases e; exact .nil
  | o :: os, _, _, vs, .cons h t, e => by
    obtain ⟨u, e1, e⟩ := bind_some e
    obtain ⟨us, e2, e⟩ := bind_some e
    cases e
    obtain ⟨W, r, _⟩ := h.deref s e1
    exact .cons ⟨W, r⟩ (ovs_derefs s t e2)
theorem call_te {g : List PV → Option PV} {a : M (List Opd)} {Q : VK} (h : tE q K mg P (cCall g a) σ H Q) : tA q K mg P a σ H fun vs H1 => rCall K mg g vs H1 Q := by
  obtain ⟨ρ, B, F, r, ρ', R, e1, k⟩ := h
  obtain ⟨⟨os, ρ1⟩, z1, e1⟩ := bind_some e1
  obtain ⟨vs, d1, e1⟩ := bind_some e1
  obtain ⟨r, gr, e1⟩ := bind_some e1
  cases e1
  refine ⟨ρ, B, F, os, ρ1, R, z1, fun xs H1 B1 G1 F1 p1 => ?_⟩
  refine ⟨B1, vs, r, ovs_derefs p1.sl p1.ov d1, gr, fun z H' B' G rv ng fr kp => k z H' B' G F1 ?_⟩
  exact fin_new p1.ro p1.sl (nodup_r p1.nd) (p1.st.less fun b hb => List.mem_append_right _ hb) rv ng fr kp
theorem ge_bin {X : Cx} {a b : Expr} {fa fb : O} {pos : Pos} {op : Operator} {g : PV → PV → Option PV} (ho : OpR X (binaryOp op) (rOp K mg g)) (ha : PE X a (tO q K mg P fa)) (hb : PE X b (tO q K mg P fb))
    (hp : NoPk fa ∨ q = true := by first | exact .inl nopk_sl | exact .inl nopk_tm | exact .inr rfl | assumption) : PE X (.BinOp a op b pos) (tE q K mg P (cBin g fa fb)) :=
  PE.weak (pe_op ho ha hb) fun _ _ _ h => bin_te hp h
theorem ge_cmp {X : Cx} {a b : Expr} {fa fb : O} {pos : Pos} {op : CmpOp} {g : PV → PV → Option PV} (ho : OpR X (compareOp op) (rOp K mg g)) (ha : PE X a (tO q K mg P fa)) (hb : PE X b (tO q K mg P fb))
    (hm : behindInMarks op b = false) (hp : NoPk fa ∨ q = true := by first | exact .inl nopk_sl | exact .inl nopk_tm | exact .inr rfl | assumption) : PE X (.Compare a [op] [b] pos) (tE q K mg P (cBin g fa fb)) :=
  PE.weak (pe_cmpR ho ha hb hm) fun _ _ _ h => bin_te hp h
theorem ge_un {X : Cx} {a : Expr} {fa : O} {pos : Pos} {op : UnaryOp} {g : PV → Option PV} (ho : UnR X (unaryOp op) (rUn K mg g)) (ha : PE X a (tO q K mg P fa)) : PE X (.UnaryOp op a pos) (tE q K mg P (cUn g fa)) :=
  PE.weak (pe_un ho ha) fun _ _ _ h => un_te h
/-- a built-in function, a built-in class, called by its name -/
theorem ge_callB {X : Cx} {x : Str} {p pos : Pos} {e : Expr} {es : List Expr} {f : M (List Opd)} {id : String} {g : List PV → Option PV} (hc : CallR X (.builtin id) (rCall K mg g)) (hm : X.mg x = none) (hv : bootBuiltins x = some (.builtin id)) (hg : Gl X x)
    (ha : PA X (e :: es) (tA q K mg P f)) (hn : x ≠ "__name__" := by decide) (hdb : (x == ("__debug__" : Str)) = false := by decide)
    (he : starEach (e :: es) X.env = (false, eval e X.env) :: starEach es X.env := by rfl) (hpl : (backTo pos (starEach es X.env)).any (·.1) = false := by rfl) : PE X (.Call (.Name x p) (e :: es) [] pos) (tE q K mg P (cCall g f)) :=
  PE.weak (pe_callB hc hg hm hv ha hn hdb he hpl) fun _ _ _ h => call_te h
theorem ge_callTy {X : Cx} {x : Str} {p pos : Pos} {e : Expr} {es : List Expr} {f : M (List Opd)} {T : String} {g : List PV → Option PV} (hc : CallR X (.type T) (rCall K mg g)) (hm : X.mg x = none) (hv : bootBuiltins x = some (.type T)) (hg : Gl X x)
    (ha : PA X (e :: es) (tA q K mg P f)) (hn : x ≠ "__name__" := by decide) (hdb : (x == ("__debug__" : Str)) = false := by decide)
    (he : starEach (e :: es) X.env = (false, eval e X.env) :: starEach es X.env := by rfl) (hpl : (backTo pos (starEach es X.env)).any (·.1) = false := by rfl) : PE X (.Call (.Name x p) (e :: es) [] pos) (tE q K mg P (cCall g f)) :=
  PE.weak (pe_callTy hc hg hm hv ha hn hdb he hpl) fun _ _ _ h => call_te h
end
end GX

/-! GX: + - * // % ** and comparisons. -/
namespace GX
open PySem PySem.Spec PyProof.Rows L2

section
variable {K : PySem.W.Frag} {mg : Str → Option Value} {H H' : Hp} {B B' : Addr → Prop} {x y : V} {v w r : PV} {xs : List PV} {ys : List V} {G F W : List Addr} {Q : VK}
theorem New.list (h : New K mg H B (.lst true xs) Q) (r : RVs K mg H B xs ys []) {p : Addr} (hp : H p = none) : Q (.ref p) (upd H p (.lst ys)) :=
  h _ _ (own1 B p) [p] (.lstO upd_same (.inl rfl) (r.keep0 (Keep.newO hp))) (by simp) (fun b hb => by simp at hb; rw [hb]; exact hp) (Keep.newO hp)
theorem New.tup (h : New K mg H B (.tup xs) Q) (r : RVs K mg H B xs ys []) {p : Addr} (hp : H p = none) : Q (.ref p) (upd H p (.tup ys)) :=
  h _ _ B [] (.tup (.inl (.inl upd_same)) (r.keep0 (Keep.new hp))) List.nodup_nil (fun _ h => nomatch h) (Keep.new hp)
theorem RVs.pures0 (r : RVs K mg H B xs ys F) (h : PV.pures xs = true) : RVs K mg H B xs ys [] := by
  have := r.pure h
  subst this
  exact r

def guard {α : Type} (c : Prop) [Decidable c] (a : Option α) : Option α := if c then a else none
theorem guard_some {α : Type} {c : Prop} [Decidable c] {a : Option α} {b : α} (h : guard c a = some b) : c ∧ a = some b := by
  unfold guard at h
  split at h
  · exact ⟨by assumption, h⟩
  · cases h
theorem guard_pos {α : Type} {c : Prop} [Decidable c] {a : Option α} (h : c) : guard c a = a := by unfold guard; rw [if_pos h]

def padd : PV → PV → Option PV
  | .int i, .int j => some (.int (i + j))
  | .str a, .str b => guard (a.length + b.length ≤ 16777216) (some (.str (a ++ b)))
  | .tup xs, .tup ys => guard (PV.pures xs = true ∧ PV.pures ys = true ∧ xs.length + ys.length ≤ 16777216) (some (.tup (xs ++ ys)))
  | .lst _ xs, .lst _ ys => guard (PV.pures xs = true ∧ PV.pures ys = true ∧ xs.length + ys.length ≤ 16777216) (some (.lst true (xs ++ ys)))
  | _, _ => none
theorem RV.lst {o : Bool} (r : RV K mg H B (.lst o xs) x F) (hp : PV.pures xs = true) : ∃ a ys, x = .ref a ∧ H a = some (.lst ys) ∧ RVs K mg H B xs ys [] := by
  cases o with
  | true => cases r with | lstO h b r => exact ⟨_, _, rfl, h, r.pures0 hp⟩
  | false => cases r with | lstF h b r => exact ⟨_, _, rfl, h, r⟩
theorem sz_le {n : Nat} (h : n ≤ 16777216) : n ≤ sizeLine := h
theorem or_add {X : Cx} (hK : X.K = K) : OpR X (binaryOp .Add) (rOp K mg padd) := by
  subst hK
  intro pins s σ H x y v u Q I rx ry ⟨B, va, vb, Wa, Wb, r, ra, rb, g, k⟩
  unfold padd at g
  split at g
  · cases g
    cases ra
    cases rb
    exact op_add pins s σ H _ _ v u Q I rx ry ⟨_, _, rfl, rfl, k.pure (.int _)⟩
  · obtain ⟨c, g⟩ := guard_some g
    cases g
    cases ra
    cases rb
    exact op_add_str pins s σ H _ _ v u Q I rx ry ⟨_, _, rfl, rfl, c, k.pure (.str _)⟩
  · obtain ⟨⟨c1, c2, c3⟩, g⟩ := guard_some g
    cases g
    cases ra with
    | tup ha r1 =>
    cases rb with
    | tup hb r2 =>
    have r1 := r1.pures0 c1
    have r2 := r2.pures0 c2
    have l1 := r1.length
    have l2 := r2.length
    refine op_catA pins s σ H _ _ v u Q I rx ry ⟨_, _, _, _, rfl, rfl, ha, hb, sz_le (by omega), fun e => ?_, fun _ e => ?_, fun _ _ p hp => k.tup (r1.append r2) hp⟩
    · subst e
      cases r1
      exact k.pure (.tup hb r2)
    · subst e
      cases r2
      rw [List.append_nil] at k
      exact k.pure (.tup ha r1)
  · obtain ⟨⟨c1, c2, c3⟩, g⟩ := guard_some g
    cases g
    obtain ⟨a, ys1, rfl, ha, r1⟩ := ra.lst c1
    obtain ⟨b, ys2, rfl, hb, r2⟩ := rb.lst c2
    have l1 := r1.length
    have l2 := r2.length
    exact op_cat pins s σ H _ _ v u Q I rx ry ⟨_, _, _, _, rfl, rfl, ha, hb, sz_le (by omega), fun p hp => k.list (r1.append r2) hp⟩
  · cases g
end
end GX

/-! GX: - * // % **, comparisons, in, is. -/
namespace GX
open PySem PySem.Spec PyProof.Rows L2

def psub : PV → PV → Option PV
  | .int i, .int j => some (.int (i - j))
  | _, _ => none
def MulOk (i j : Int) : Prop := i.natAbs < 18446744073709551616 ∨ j.natAbs < 18446744073709551616 ∨ i.natAbs.log2 + j.natAbs.log2 < 1000000
instance {i j : Int} : Decidable (MulOk i j) := by unfold MulOk; infer_instance
def reps {α : Type} (k : Nat) (xs : List α) : List α := (List.replicate k xs).flatten
def pmul : PV → PV → Option PV
  | .int i, .int j => guard (MulOk i j) (some (.int (i * j)))
  | .lst _ xs, .int k => guard (PV.pures xs = true ∧ -9223372036854775808 ≤ k ∧ k < 9223372036854775808 ∧ xs.length * k.toNat ≤ 16777216) (some (.lst true (reps k.toNat xs)))
  | .tup xs, .int k => guard (PV.pures xs = true ∧ xs ≠ [] ∧ 2 ≤ k ∧ k ≤ 1000 ∧ xs.length ≤ 1000) (some (.tup (reps k.toNat xs)))
  | _, _ => none
def DivOk (j : Int) : Prop := 0 < j ∧ (j.natAbs < 18446744073709551616 ∨ j.natAbs.log2 < 9000)
instance {j : Int} : Decidable (DivOk j) := by unfold DivOk; infer_instance
def pfdiv : PV → PV → Option PV
  | .int i, .int j => guard (DivOk j) (some (.int (i / j)))
  | _, _ => none
def pmod : PV → PV → Option PV
  | .int i, .int j => guard (0 < j) (some (.int (i % j)))
  | _, _ => none
def ppow : PV → PV → Option PV
  | .int i, .int j => guard (0 ≤ j ∧ j ≤ 1000000 ∧ i.natAbs < 18446744073709551616) (some (.int (i ^ j.toNat)))
  | _, _ => none
def pneg : PV → Option PV
  | .int i => some (.int (-i))
  | _ => none

section
variable {K : PySem.W.Frag} {mg : Str → Option Value} {H H' : Hp} {B B' : Addr → Prop} {x y : V} {v w r : PV} {xs : List PV} {ys : List V} {G F W : List Addr} {Q : VK} {X : Cx}

theorem log2_64 {n : Nat} (h : n < 18446744073709551616) : n.log2 < 64 := PySem.Flt.log2_lt_of (by decide) (by rw [show (2 : Nat) ^ 64 = 18446744073709551616 from rfl]; exact h)
theorem MulOk.cm {i j : Int} (h : MulOk i j) : CMul i j ∨ CMulW i j := by
  have e : (2 : Int) ^ 64 = 18446744073709551616 := rfl
  rcases h with h | h | h
  · exact .inl (.inl (by rw [e]; omega))
  · exact .inl (.inr (by rw [e]; omega))
  · exact .inr h
theorem DivOk.cd {i j : Int} (h : DivOk j) : CDivW i j := by
  refine ⟨h.1, ?_⟩
  rcases h.2 with h | h
  · have := log2_64 h
    omega
  · exact h
theorem or_sub : OpR X (binaryOp .Sub) (rOp K mg psub) := by
  intro pins s σ H x y v u Q I rx ry ⟨B, va, vb, Wa, Wb, r, ra, rb, g, k⟩
  unfold psub at g
  split at g
  · cases g
    cases ra
    cases rb
    exact op_sub pins s σ H _ _ v u Q I rx ry ⟨_, _, rfl, rfl, k.pure (.int _)⟩
  · cases g
theorem RVs.reps (r : RVs K mg H B xs ys []) : ∀ k : Nat, RVs K mg H B (reps k xs) (List.replicate k ys).flatten []
  | 0 => .nil
  | k + 1 => by
    have := r.append (RVs.reps r k)
    simpa [GX.reps, List.replicate_succ] using this
theorem or_mul (hK : X.K = K) : OpR X (binaryOp .Mult) (rOp K mg pmul) := by
  subst hK
  intro pins s σ H x y v u Q I rx ry ⟨B, va, vb, Wa, Wb, r, ra, rb, g, k⟩
  unfold pmul at g
  split at g
  · obtain ⟨c, g⟩ := guard_some g
    cases g
    cases ra
    cases rb
    rcases c.cm with c | c
    · exact op_mul pins s σ H _ _ v u Q I rx ry ⟨_, _, rfl, rfl, c, k.pure (.int _)⟩
    · exact op_mulW pins s σ H _ _ v u Q I rx ry ⟨_, _, rfl, rfl, c, k.pure (.int _)⟩
  · obtain ⟨⟨c1, c2, c3, c4⟩, g⟩ := guard_some g
    cases g
    cases rb
    obtain ⟨a, ys1, rfl, ha, r1⟩ := ra.lst c1
    have l1 := r1.length
    have e : (2 : Int) ^ 63 = 9223372036854775808 := rfl
    exact op_rep pins s σ H _ _ v u Q I rx ry ⟨_, _, _, rfl, rfl, ha, by rw [e]; exact c2, by rw [e]; exact c3, by rw [← l1]; exact c4, fun p hp => k.list (r1.reps _) hp⟩
  · obtain ⟨⟨c1, c2, c3, c4, c5⟩, g⟩ := guard_some g
    cases g
    cases rb
    cases ra with
    | tup ha r1 =>
    have r1 := r1.pures0 c1
    have l1 := r1.length
    refine op_repT pins s σ H _ _ v u Q I rx ry ⟨_, _, _, rfl, rfl, ha, fun e => c2 ?_, c3, c4, by omega, fun p hp => k.tup (r1.reps _) hp⟩
    subst e
    cases r1
    rfl
  · cases g
theorem or_fdiv : OpR X (binaryOp .FloorDiv) (rOp K mg pfdiv) := by
  intro pins s σ H x y v u Q I rx ry ⟨B, va, vb, Wa, Wb, r, ra, rb, g, k⟩
  unfold pfdiv at g
  split at g
  · obtain ⟨c, g⟩ := guard_some g
    cases g
    cases ra
    cases rb
    exact op_fdivW pins s σ H _ _ v u Q I rx ry ⟨_, _, rfl, rfl, c.cd, k.pure (.int _)⟩
  · cases g
theorem or_mod : OpR X (binaryOp .Mod) (rOp K mg pmod) := by
  intro pins s σ H x y v u Q I rx ry ⟨B, va, vb, Wa, Wb, r, ra, rb, g, k⟩
  unfold pmod at g
  split at g
  · obtain ⟨c, g⟩ := guard_some g
    cases g
    cases ra
    cases rb
    exact op_mod pins s σ H _ _ v u Q I rx ry ⟨_, _, rfl, rfl, c, k.pure (.int _)⟩
  · cases g
theorem or_pow : OpR X (binaryOp .Pow) (rOp K mg ppow) := by
  intro pins s σ H x y v u Q I rx ry ⟨B, va, vb, Wa, Wb, r, ra, rb, g, k⟩
  unfold ppow at g
  split at g
  · obtain ⟨⟨c1, c2, c3⟩, g⟩ := guard_some g
    cases g
    cases ra
    cases rb
    exact op_pow pins s σ H _ _ v u Q I rx ry ⟨_, _, rfl, rfl, ⟨c1, c2, by rw [show (2 : Nat) ^ 64 = 18446744073709551616 from rfl]; exact c3⟩, k.pure (.int _)⟩
  · cases g
theorem or_neg : UnR X (unaryOp .USub) (rUn K mg pneg) := by
  intro pins s σ H x v Q I rx ⟨B, va, Wa, r, ra, g, k⟩
  unfold pneg at g
  split at g
  · cases g
    cases ra
    exact un_neg pins s σ H _ v Q I rx ⟨_, rfl, k.pure (.int _)⟩
  · cases g
end

/-! ### comparisons -/
mutual
def toD : PV → Option PyData
  | .non => some .none
  | .bl b => some (.bool b)
  | .int i => some (.int i)
  | .str x => some (.str x)
  | .tup xs => (toDs xs).map .tuple
  | .lst _ xs => (toDs xs).map .list
  | _ => none
def toDs : List PV → Option (List PyData)
  | [] => some []
  | x :: xs => (toD x).bind fun d => (toDs xs).bind fun ds => some (d :: ds)
end
def scalP : PV → PV → Option Bool
  | .non, .non => some true
  | .non, .int _ => some false | .int _, .non => some false | .non, .bl _ => some false | .bl _, .non => some false | .non, .str _ => some false | .str _, .non => some false
  | .int i, .int j => some (decide (i = j)) | .bl i, .bl j => some (decide (i = j)) | .str i, .str j => some (decide (i = j))
  | .int _, .str _ => some false | .str _, .int _ => some false | .bl _, .str _ => some false | .str _, .bl _ => some false
  | _, _ => none
def deepEq (a b : PV) : Option Bool := (toD a).bind fun d => (toD b).bind fun e => guard (SeqAt.shaped d = true ∧ SeqAt.shaped e = true) (some (PyData.eqv d e))
def peqB (a b : PV) : Option Bool := match scalP a b with
  | some c => some c
  | none => deepEq a b
def peq (a b : PV) : Option PV := (peqB a b).map .bl
def pne (a b : PV) : Option PV := (peqB a b).map fun c => .bl (!c)
def pcmp (f : Int → Int → Bool) (g : List Nat → List Nat → Bool) : PV → PV → Option PV
  | .int i, .int j => some (.bl (f i j))
  | .str i, .str j => some (.bl (g i.cps.toList j.cps.toList))
  | _, _ => none
def plt : PV → PV → Option PV := pcmp (fun i j => decide (i < j)) fun a b => decide (a < b)
def ple : PV → PV → Option PV := pcmp (fun i j => decide (i ≤ j)) fun a b => !decide (b < a)
def pgt : PV → PV → Option PV := pcmp (fun i j => decide (j < i)) fun a b => decide (b < a)
def pge : PV → PV → Option PV := pcmp (fun i j => decide (j ≤ i)) fun a b => !decide (a < b)
def isNonP : PV → Bool
  | .non => true
  | _ => false
def pisN : PV → PV → Option PV
  | a, .non => some (.bl (isNonP a))
  | _, _ => none
def pnotN : PV → PV → Option PV
  | a, .non => some (.bl (!isNonP a))
  | _, _ => none
/-- flat values -/
def flatP : PV → Bool
  | .non => true
  | .bl _ => true
  | .int _ => true
  | .str _ => true
  | _ => false
def eqF : PV → PV → Bool
  | .non, .non => true
  | .bl a, .bl b => a == b
  | .bl a, .int b => (if a then 1 else 0) == b
  | .int a, .bl b => a == (if b then 1 else 0)
  | .int a, .int b => a == b
  | .str a, .str b => a == b
  | _, _ => false
def toKey : PV → Option Key
  | .int i => some (.inl i)
  | .str x => some (.inr x)
  | _ => none
def lookK {α : Type} (kvs : List (Key × α)) (k : Key) : Option α := (kvs.find? fun kv => decide (kv.1 = k)).map (·.2)
def pinB : PV → PV → Option Bool
  | a, .tup xs => guard (flatP a = true ∧ xs.all flatP = true) (some (xs.any fun y => eqF y a))
  | a, .lst _ xs => if flatP a = true ∧ xs.all flatP = true then some (xs.any fun y => eqF y a) else
      (toD a).bind fun d => (toDs xs).bind fun ds => guard (SeqAt.shaped d = true ∧ SeqAt.shaped (.list ds) = true) (some (ds.any fun z => PyData.eqv z d))
  | a, .dic _ kvs => (toKey a).bind fun k => some (lookK kvs k).isSome
  | .str a, .str b => some (!(Builtin.Str.occurrences b a 0 b.length 1).isEmpty)
  | _, _ => none
def pin (a b : PV) : Option PV := (pinB a b).map .bl
def pnin (a b : PV) : Option PV := (pinB a b).map fun c => .bl (!c)

section
variable {K : PySem.W.Frag} {mg : Str → Option Value} {H H' : Hp} {B B' : Addr → Prop} {x y : V} {v w r : PV} {xs : List PV} {ys : List V} {G F W : List Addr} {Q : VK} {X : Cx}
mutual
theorem RV.dp : ∀ {v : PV} {x : V} {F : List Addr} {d : PyData}, RV K mg H B v x F → toD v = some d → Dp K H x d
  | _, _, _, _, .non, e => by cases e; exact .non
  | _, _, _, _, .bl b, e => by cases e; exact .bl b
  | _, _, _, _, .int b, e => by cases e; exact .int b
  | _, _, _, _, .str b, e => by cases e; exact .str b
  | _, _, _, _, .ty b, e => by cases e
  | _, _, _, _, .fn h, e => by cases e
  | _, _, _, _, .zls h r, e => by cases e
  | _, _, _, _, .tup h r, e => by
    simp only [toD, Option.map_eq_some_iff] at e
    obtain ⟨ds, e1, rfl⟩ := e
    exact .tup h (RVs.dp r e1)
  | _, _, _, _, .lstF h nB r, e => by
    simp only [toD, Option.map_eq_some_iff] at e
    obtain ⟨ds, e1, rfl⟩ := e
    exact .lst (.of h) (RVs.dp r e1)
  | _, _, _, _, .lstO h nB r, e => by
    simp only [toD, Option.map_eq_some_iff] at e
    obtain ⟨ds, e1, rfl⟩ := e
    exact .lst (.of h) (RVs.dp r e1)
  | _, _, _, _, .dicF h nB q r, e => by cases e
  | _, _, _, _, .dicO h nB q r, e => by cases e
  | _, _, _, _, .insF h nB g q r, e => by cases e
  | _, _, _, _, .insO h nB g q r, e => by cases e
theorem RVs.dp : ∀ {v : List PV} {x : List V} {F : List Addr} {d : List PyData}, RVs K mg H B v x F → toDs v = some d → DpAll K H x d
  | _, _, _, _, .nil, e => by cases e; exact .nil
  | _, _, _, _, .cons r t, e => by
    simp only [toDs] at e
    obtain ⟨d, e1, e⟩ := bind_some e
    obtain ⟨ds, e2, e⟩ := bind_some e
    cases e
    exact .cons (RV.dp r e1) (RVs.dp t e2)
end
theorem scal_ok {a b : PV} {Wa Wb : List Addr} {c : Bool} (ra : RV K mg H B a x Wa) (rb : RV K mg H B b y Wb) (e : scalP a b = some c) : scal x y = true ∧ decide (x = y) = c := by
  unfold scalP at e
  split at e <;> first
    | (simp at e; done)
    | (cases ra; cases rb; cases e; exact ⟨rfl, by simp⟩)
theorem or_eq (hK : X.K = K) (hu : X.A.units + 64 < cLine) : OpR X (compareOp .Eq) (rOp K mg peq) := by
  subst hK
  intro pins s σ H x y v u Q I rx ry ⟨B, va, vb, Wa, Wb, r, ra, rb, g, k⟩
  unfold peq at g
  simp only [Option.map_eq_some_iff] at g
  obtain ⟨c, g, rfl⟩ := g
  unfold peqB at g
  split at g
  · rename_i c' e
    cases g
    obtain ⟨e1, e2⟩ := scal_ok ra rb e
    exact op_eq pins s σ H _ _ v u Q I rx ry ⟨e1, by rw [e2]; exact k.pure (.bl _)⟩
  · obtain ⟨d, e1, g⟩ := bind_some g
    obtain ⟨d', e2, g⟩ := bind_some g
    obtain ⟨⟨c1, c2⟩, g⟩ := guard_some g
    cases g
    exact op_eqD hu pins s σ H _ _ v u Q I rx ry ⟨d, d', ra.dp e1, rb.dp e2, c1, c2, k.pure (.bl _)⟩
theorem or_ne (hK : X.K = K) (hu : X.A.units + 64 < cLine) : OpR X (compareOp .NotEq) (rOp K mg pne) := by
  subst hK
  intro pins s σ H x y v u Q I rx ry ⟨B, va, vb, Wa, Wb, r, ra, rb, g, k⟩
  unfold pne at g
  simp only [Option.map_eq_some_iff] at g
  obtain ⟨c, g, rfl⟩ := g
  unfold peqB at g
  split at g
  · rename_i c' e
    cases g
    obtain ⟨e1, e2⟩ := scal_ok ra rb e
    exact op_ne pins s σ H _ _ v u Q I rx ry ⟨e1, by rw [e2]; exact k.pure (.bl _)⟩
  · obtain ⟨d, e1, g⟩ := bind_some g
    obtain ⟨d', e2, g⟩ := bind_some g
    obtain ⟨⟨c1, c2⟩, g⟩ := guard_some g
    cases g
    exact op_neD hu pins s σ H _ _ v u Q I rx ry ⟨d, d', ra.dp e1, rb.dp e2, c1, c2, k.pure (.bl _)⟩
theorem or_cmp {op : CmpOp} {f : Int → Int → Bool} {g : List Nat → List Nat → Bool} (h1 : OpR X (compareOp op) (rI0 fun i j => .bl (f i j)))
    (h2 : OpR X (compareOp op) (fun x y H Q => ∃ i j, x = .str i ∧ y = .str j ∧ Q (.bl (g i.cps.toList j.cps.toList)) H)) : OpR X (compareOp op) (rOp K mg (pcmp f g)) := by
  intro pins s σ H x y v u Q I rx ry ⟨B, va, vb, Wa, Wb, r, ra, rb, gg, k⟩
  unfold pcmp at gg
  split at gg
  · cases gg
    cases ra
    cases rb
    exact h1 pins s σ H _ _ v u Q I rx ry ⟨_, _, rfl, rfl, k.pure (.bl _)⟩
  · cases gg
    cases ra
    cases rb
    exact h2 pins s σ H _ _ v u Q I rx ry ⟨_, _, rfl, rfl, k.pure (.bl _)⟩
  · cases gg
theorem or_lt : OpR X (compareOp .Lt) (rOp K mg plt) := or_cmp op_lt op_lt_str
theorem or_le : OpR X (compareOp .LtE) (rOp K mg ple) := or_cmp op_le op_le_str
theorem or_gt : OpR X (compareOp .Gt) (rOp K mg pgt) := or_cmp op_gt op_gt_str
theorem or_ge : OpR X (compareOp .GtE) (rOp K mg pge) := or_cmp op_ge op_ge_str
theorem isNon_ok {a : PV} (ra : RV K mg H B a x W) : decide (x = .non) = isNonP a := by
  cases ra <;> simp [isNonP]
theorem or_isN : OpR X (compareOp .Is) (rOp K mg pisN) := by
  intro pins s σ H x y v u Q I rx ry ⟨B, va, vb, Wa, Wb, r, ra, rb, g, k⟩
  unfold pisN at g
  split at g
  · cases g
    cases rb
    exact op_isN pins s σ H _ _ v u Q I rx ry ⟨rfl, by rw [isNon_ok ra]; exact k.pure (.bl _)⟩
  · cases g
theorem or_notN : OpR X (compareOp .IsNot) (rOp K mg pnotN) := by
  intro pins s σ H x y v u Q I rx ry ⟨B, va, vb, Wa, Wb, r, ra, rb, g, k⟩
  unfold pnotN at g
  split at g
  · cases g
    cases rb
    exact op_notN pins s σ H _ _ v u Q I rx ry ⟨rfl, by rw [isNon_ok ra]; exact k.pure (.bl _)⟩
  · cases g
theorem flat_ok {a : PV} (ra : RV K mg H B a x W) (e : flatP a = true) : flatV x = true := by
  cases ra <;> first | rfl | cases e
theorem eqF_ok {a b : PV} {Wa Wb : List Addr} (ra : RV K mg H B a x Wa) (rb : RV K mg H B b y Wb) : eqV x y = eqF a b := by
  cases ra <;> cases rb <;> rfl
theorem flats_ok : ∀ {xs : List PV} {ys : List V} {W : List Addr}, RVs K mg H B xs ys W → xs.all flatP = true → ys.all flatV = true
  | _, _, _, .nil, _ => rfl
  | _, _, _, .cons r t, e => by
    simp only [List.all_cons, Bool.and_eq_true] at e ⊢
    exact ⟨flat_ok r e.1, flats_ok t e.2⟩
theorem any_ok {a : PV} {Wa : List Addr} (ra : RV K mg H B a x Wa) : ∀ {xs : List PV} {ys : List V} {W : List Addr}, RVs K mg H B xs ys W → inV x ys = xs.any fun z => eqF z a
  | _, _, _, .nil => rfl
  | _, _, _, .cons r t => by
    have := any_ok ra t
    unfold inV at this ⊢
    rw [List.any_cons, List.any_cons, this, eqF_ok r ra]
theorem RV.lsts {o : Bool} (r : RV K mg H B (.lst o xs) x F) : ∃ a ys W, x = .ref a ∧ H a = some (.lst ys) ∧ RVs K mg H B xs ys W ∧ W.Sublist F := by
  cases o with
  | true => cases r with | lstO h b r => exact ⟨_, _, _, rfl, h, r, List.sublist_cons_self _ _⟩
  | false => cases r with | lstF h b r => exact ⟨_, _, _, rfl, h, r, List.Sublist.refl _⟩
theorem RV.dics {o : Bool} {ps : List (Key × PV)} (r : RV K mg H B (.dic o ps) x F) : ∃ a ks W, x = .ref a ∧ Rd H a (.dK ks) ∧ ps.map (·.1) = ks.map (·.1) ∧ RVs K mg H B (ps.map (·.2)) (ks.map (·.2)) W ∧ W.Sublist F := by
  cases o with
  | true => cases r with | dicO h b e r => exact ⟨_, _, _, rfl, .inl h, e, r, List.sublist_cons_self _ _⟩
  | false => cases r with | dicF h b e r => exact ⟨_, _, _, rfl, h, e, r, List.Sublist.refl _⟩
theorem toKey_ok {a : PV} {k : Key} (ra : RV K mg H B a x W) (e : toKey a = some k) : x = kV k := by
  cases ra <;> first | (cases e; done) | (cases e; rfl)
/-- a dict's look-up -/
theorem look_ok : ∀ {ps : List (Key × PV)} {ks : List (Key × V)} {W : List Addr} {k : Key}, ps.map (·.1) = ks.map (·.1) → RVs K mg H B (ps.map (·.2)) (ks.map (·.2)) W →
    match lookK ps k with
    | none => valV ks k = none
    | some v => ∃ x G, valV ks k = some x ∧ RV K mg H B v x G ∧ G.Sublist W
  | [], [], _, k, _, _ => rfl
  | [], _ :: _, _, _, e, _ => by simp at e
  | _ :: _, [], _, _, e, _ => by simp at e
  | p :: ps, q :: ks, W, k, e, r => by
    simp only [List.map_cons, List.cons.injEq] at e
    cases r with
    | cons r t =>
    have ih := look_ok (k := k) e.2 t
    unfold lookK at ih ⊢
    by_cases h : p.1 = k
    · have hq : q.1 = k := e.1 ▸ h
      rw [List.find?_cons_of_pos (by simpa using h)]
      refine ⟨_, _, ?_, r, List.sublist_append_left _ _⟩
      unfold valV
      rw [List.find?_cons_of_pos (by simpa using hq)]
      rfl
    · have hq : ¬ q.1 = k := e.1 ▸ h
      rw [List.find?_cons_of_neg (by simpa using h)]
      have e2 : valV (q :: ks) k = valV ks k := by
        unfold valV
        rw [List.find?_cons_of_neg (by simpa using hq)]
      rw [e2]
      split at ih
      · exact ih
      · obtain ⟨x, G, a1, a2, a3⟩ := ih
        exact ⟨x, G, a1, a2, a3.trans (List.sublist_append_right _ _)⟩
theorem or_in0 {neg : Bool} (hK : X.K = K) (hu : X.A.units + 65 < cLine) : OpR X (compareOp (if neg then .NotIn else .In)) (rOp K mg fun a b => (pinB a b).map fun c => .bl (if neg then !c else c)) := by
  subst hK
  intro pins s σ H x y v u Q I rx ry ⟨B, va, vb, Wa, Wb, r, ra, rb, g, k⟩
  simp only [Option.map_eq_some_iff] at g
  obtain ⟨c, g, rfl⟩ := g
  unfold pinB at g
  have k : ∀ z : Bool, z = (if neg = true then !c else c) → Q (.bl z) H := fun z e => k.pure (by rw [e]; exact .bl _)
  split at g
  · obtain ⟨⟨c1, c2⟩, g⟩ := guard_some g
    cases g
    cases rb with
    | tup hb r2 =>
    cases neg with
    | true => exact op_notIn_seq pins s σ H _ _ v u Q I rx ry ⟨_, _, rfl, .inr hb, flat_ok ra c1, flats_ok r2 c2, k _ (by simp [any_ok ra r2])⟩
    | false => exact op_in_seq pins s σ H _ _ v u Q I rx ry ⟨_, _, rfl, .inr hb, flat_ok ra c1, flats_ok r2 c2, k _ (by simp [any_ok ra r2])⟩
  · obtain ⟨a, ys, W, rfl, hb, r2, _⟩ := rb.lsts
    split at g
    · rename_i c12
      obtain ⟨c1, c2⟩ := c12
      cases g
      cases neg with
      | true => exact op_notIn_seq pins s σ H _ _ v u Q I rx ry ⟨_, _, rfl, .inl (.of hb), flat_ok ra c1, flats_ok r2 c2, k _ (by simp [any_ok ra r2])⟩
      | false => exact op_in_seq pins s σ H _ _ v u Q I rx ry ⟨_, _, rfl, .inl (.of hb), flat_ok ra c1, flats_ok r2 c2, k _ (by simp [any_ok ra r2])⟩
    · obtain ⟨d, e1, g⟩ := bind_some g
      obtain ⟨ds, e2, g⟩ := bind_some g
      obtain ⟨⟨c1, c2⟩, g⟩ := guard_some g
      cases g
      cases neg with
      | true => exact op_notInD hu pins s σ H _ _ v u Q I rx ry ⟨d, ds, ra.dp e1, .lst (.of hb) (r2.dp e2), c1, c2, k _ (by simp)⟩
      | false => exact op_inD hu pins s σ H _ _ v u Q I rx ry ⟨d, ds, ra.dp e1, .lst (.of hb) (r2.dp e2), c1, c2, k _ (by simp)⟩
  · rename_i o0 kvs0
    obtain ⟨kk, e1, g⟩ := bind_some g
    cases g
    obtain ⟨a, ks, W, rfl, hb, e2, r2, _⟩ := rb.dics
    obtain rfl := toKey_ok ra e1
    cases ry
    have lk := look_ok (k := kk) e2 r2
    have eS : (valV ks kk).isSome = (lookK kvs0 kk).isSome := by
      split at lk
      · rename_i h0
        rw [h0, lk]
        rfl
      · rename_i v0 h0
        obtain ⟨x0, _, a1, _⟩ := lk
        rw [h0, a1]
        rfl
    cases neg with
    | true => exact d_notIn (by omega) I (.inl ⟨ks, kk, hb, rfl, rfl⟩) rx fun s' I' => ⟨.bl _, H, I', rfl, k _ (by rw [eS]; rfl)⟩
    | false => exact d_in (by omega) I (.inl ⟨ks, kk, hb, rfl, rfl⟩) rx fun s' I' => ⟨.bl _, H, I', rfl, k _ (by rw [eS]; rfl)⟩
  · cases g
    cases ra
    cases rb
    cases neg with
    | true => exact op_notin_str pins s σ H _ _ v u Q I rx ry ⟨_, _, rfl, rfl, k _ rfl⟩
    | false => exact op_in_str pins s σ H _ _ v u Q I rx ry ⟨_, _, rfl, rfl, k _ rfl⟩
  · cases g
theorem or_in (hK : X.K = K) (hu : X.A.units + 65 < cLine) : OpR X (compareOp .In) (rOp K mg pin) := or_in0 (neg := false) hK hu
theorem or_nin (hK : X.K = K) (hu : X.A.units + 65 < cLine) : OpR X (compareOp .NotIn) (rOp K mg pnin) := or_in0 (neg := true) hK hu
end
end GX

/-! GX: tests, and, or, not, if else, chains; displays; subscripts, slices. -/
namespace GX
open PySem PySem.Spec PyProof.Rows L2

def asB : PV → Option Bool
  | .bl b => some b
  | _ => none
def mVal (f : M PV) : M Bool := fun ρ => (f ρ).bind fun z => (asB z.1).bind fun b => some (b, z.2)
def mAnd (f g : M Bool) : M Bool := fun ρ => (f ρ).bind fun z => if z.1 = true then g z.2 else some (false, z.2)
def mOr (f g : M Bool) : M Bool := fun ρ => (f ρ).bind fun z => if z.1 = true then some (true, z.2) else g z.2
def mNot (f : M Bool) : M Bool := fun ρ => (f ρ).bind fun z => some (!z.1, z.2)
def cAnd (f g : M PV) : M PV := fun ρ => (f ρ).bind fun z => (asB z.1).bind fun b => if b = true then g z.2 else some (.bl false, z.2)
def cOr (f g : M PV) : M PV := fun ρ => (f ρ).bind fun z => (asB z.1).bind fun b => if b = true then some (.bl true, z.2) else g z.2
def cNot (f : M PV) : M PV := fun ρ => (f ρ).bind fun z => (asB z.1).bind fun b => some (.bl (!b), z.2)
def cIf (t : M Bool) (f g : M PV) : M PV := fun ρ => (t ρ).bind fun z => if z.1 = true then f z.2 else g z.2
def cChain (g g' : PV → PV → Option PV) (a b c : O) : M PV := fun ρ => (a ρ).bind fun z1 => (b z1.2).bind fun z2 => (deref z1.1 z2.2).bind fun va => (deref z2.1 z2.2).bind fun vb => (g va vb).bind fun r => (asB r).bind fun k =>
  if k = true then (c z2.2).bind fun z3 => (deref z2.1 z3.2).bind fun vb' => (deref z3.1 z3.2).bind fun vc => (g' vb' vc).bind fun r' => some (r', z3.2) else some (.bl false, z2.2)
def ptru : PV → Option Bool
  | .non => some false
  | .bl b => some b
  | .int i => some (i != 0)
  | .str y => guard (y.length ≤ 16777216) (some ((y.length : Int) != 0))
  | .tup xs => some (!xs.isEmpty)
  | .lst _ xs => some (!xs.isEmpty)
  | .dic true kvs => some (!kvs.isEmpty)
  | _ => none

section
variable {q : Bool} {K : PySem.W.Frag} {mg : Str → Option Value} {P : List V} {H H' H1 H2 : Hp} {B B' B1 B2 : Addr → Prop} {x y : V} {v w r : PV} {F F' F1 F2 G G1 G2 W : List Addr} {ρ ρ' ρ1 ρ2 : Rho} {σ : Sg} {X : Cx} {a b c e : Expr} {pos : Pos}

theorem PoT.trans (p : PoT q K mg P σ ρ H B F ρ1 H1 B1 F1) (p2 : PoT q K mg P σ ρ1 H1 B1 F1 ρ2 H2 B2 F2) : PoT q K mg P σ ρ H B F ρ2 H2 B2 F2 :=
  ⟨p2.sl, p2.nd, p.st.trans p2.st, fun e => let ⟨a1, a2, a3⟩ := p.ro e; let ⟨b1, b2, b3⟩ := p2.ro e; ⟨b1.trans a1, b2.trans a2, a3.trans0 b3⟩⟩
theorem PoT.toE (p : PoT q K mg P σ ρ H B F ρ1 H1 B1 F1) (p2 : PoE q K mg P σ ρ1 H1 B1 F1 v ρ2 x H2 B2 G F2) : PoE q K mg P σ ρ H B F v ρ2 x H2 B2 G F2 :=
  ⟨p2.rv, p2.sl, p2.nd, p.st.trans p2.st, fun e => let ⟨a1, a2, a3⟩ := p.ro e; let ⟨b1, b2, b3⟩ := p2.ro e; ⟨b1.trans a1, b2.trans a2, a3.trans0 b3⟩⟩
/-- the value is dropped -/
theorem PoE.drop (p : PoE q K mg P σ ρ H B F v ρ' x H' B' G F') : PoT q K mg P σ ρ H B F ρ' H' B' F' := ⟨p.sl, nodup_r p.nd, p.st.less fun b hb => List.mem_append_right _ hb, p.ro⟩
theorem PoT.flat (p : PoT q K mg P σ ρ H B F ρ' H' B' F') (r : RV K mg H' B' v x []) : PoE q K mg P σ ρ H B F v ρ' x H' B' [] F' := ⟨r, p.sl, p.nd, p.st, p.ro⟩

theorem val_te {f : M PV} {Q : Bool → Hp → Prop} (h : tT q K mg P (mVal f) σ H Q) : tE q K mg P f σ H fun x H' => ∃ k, x = .bl k ∧ Q k H' := by
  obtain ⟨ρ, B, F, b, ρ', R, e1, k⟩ := h
  obtain ⟨⟨u, ρ1⟩, z1, e1⟩ := bind_some e1
  obtain ⟨b, z2, e1⟩ := bind_some e1
  cases e1
  refine ⟨ρ, B, F, u, ρ1, R, z1, fun x H' B' G F' p => ?_⟩
  cases u <;> first | (cases z2; done) | skip
  cases z2
  have p' := p.drop
  cases p.rv
  exact ⟨_, rfl, k _ _ _ p'⟩
theorem gt_val {f : M PV} (h : PE X e (tE q K mg P f)) (he : ∀ whole, isTrue e X.env whole = (do let v ← whole; standAt e.pos; holding [v] (truthy v)) := by intro _; rfl) : PT X e (tT q K mg P (mVal f)) :=
  PT.weak (pt_val h he) fun _ _ _ h => val_te h
theorem gt_cmp {fa fb : O} {op : CmpOp} {g : PV → PV → Option PV} (ho : OpR X (compareOp op) (rOp K mg g)) (ha : PE X a (tO q K mg P fa)) (hb : PE X b (tO q K mg P fb))
    (hm : behindInMarks op b = false) (hp : NoPk fa ∨ q = true := by first | exact .inl nopk_sl | exact .inl nopk_tm | exact .inr rfl | assumption) : PT X (.Compare a [op] [b] pos) (tT q K mg P (mVal (cBin g fa fb))) :=
  PT.weak (pt_cmpR ho ha hb hm) fun _ _ _ h => bin_te hp (val_te h)
theorem gw_and1 {f : M Bool} (h : PT X a (tT q K mg P f)) : PW X (.BoolOp .And [a] pos) (tT q K mg P f) := pw_and1 h
theorem gw_or1 {f : M Bool} (h : PT X a (tT q K mg P f)) : PW X (.BoolOp .Or [a] pos) (tT q K mg P f) := pw_or1 h
theorem gw_and {f g : M Bool} {rest : List Expr} (h : PT X a (tT q K mg P f)) (hr : PW X (.BoolOp .And (b :: rest) pos) (tT q K mg P g)) : PW X (.BoolOp .And (a :: b :: rest) pos) (tT q K mg P (mAnd f g)) :=
  PW.weak (pw_and h hr) fun σ H Q ⟨ρ, B, F, u, ρ', R, e1, k⟩ => by
    obtain ⟨⟨d, ρ1⟩, z1, e1⟩ := bind_some e1
    refine ⟨ρ, B, F, d, ρ1, R, z1, fun H1 B1 F1 p => ?_⟩
    cases d with
    | true =>
      rw [if_pos rfl] at e1 ⊢
      exact ⟨ρ1, B1, F1, u, ρ', p.rel, e1, fun H2 B2 F2 p2 => k H2 B2 F2 (p.trans p2)⟩
    | false =>
      rw [if_neg Bool.false_ne_true] at e1 ⊢
      cases e1
      exact k H1 B1 F1 p
theorem gw_or {f g : M Bool} {rest : List Expr} (h : PT X a (tT q K mg P f)) (hr : PW X (.BoolOp .Or (b :: rest) pos) (tT q K mg P g)) : PW X (.BoolOp .Or (a :: b :: rest) pos) (tT q K mg P (mOr f g)) :=
  PW.weak (pw_or h hr) fun σ H Q ⟨ρ, B, F, u, ρ', R, e1, k⟩ => by
    obtain ⟨⟨d, ρ1⟩, z1, e1⟩ := bind_some e1
    refine ⟨ρ, B, F, d, ρ1, R, z1, fun H1 B1 F1 p => ?_⟩
    cases d with
    | true =>
      rw [if_pos rfl] at e1 ⊢
      cases e1
      exact k H1 B1 F1 p
    | false =>
      rw [if_neg Bool.false_ne_true] at e1 ⊢
      exact ⟨ρ1, B1, F1, u, ρ', p.rel, e1, fun H2 B2 F2 p2 => k H2 B2 F2 (p.trans p2)⟩
theorem gt_not {f : M Bool} (h : PT X a (tT q K mg P f)) : PT X (.UnaryOp .Not a pos) (tT q K mg P (mNot f)) :=
  PT.weak (pt_not h) fun σ H Q ⟨ρ, B, F, u, ρ', R, e1, k⟩ => by
    obtain ⟨⟨d, ρ1⟩, z1, e1⟩ := bind_some e1
    cases e1
    exact ⟨ρ, B, F, d, ρ1, R, z1, k⟩
theorem ge_one {op : PySem.BoolOp} {f : M PV} (h : PE X a (tE q K mg P f)) : PE X (.BoolOp op [a] pos) (tE q K mg P f) := pe_one h
theorem ge_and {f g : M PV} {rest : List Expr} (h : PE X a (tE q K mg P f)) (hr : PE X (.BoolOp .And (b :: rest) pos) (tE q K mg P g)) : PE X (.BoolOp .And (a :: b :: rest) pos) (tE q K mg P (cAnd f g)) :=
  PE.weak (pe_and h hr) fun σ H Q ⟨ρ, B, F, u, ρ', R, e1, k⟩ => by
    obtain ⟨⟨d, ρ1⟩, z1, e1⟩ := bind_some e1
    obtain ⟨b', z2, e1⟩ := bind_some e1
    refine ⟨ρ, B, F, d, ρ1, R, z1, fun x H1 B1 G1 F1 p => ?_⟩
    cases d <;> first | (cases z2; done) | skip
    cases z2
    have p' := p.drop
    cases p.rv
    refine ⟨_, rfl, ?_⟩
    cases b' with
    | true =>
      rw [if_pos rfl] at e1 ⊢
      exact ⟨ρ1, B1, F1, u, ρ', p'.rel, e1, fun y H2 B2 G2 F2 p2 => k y H2 B2 G2 F2 (p'.toE p2)⟩
    | false =>
      rw [if_neg Bool.false_ne_true] at e1 ⊢
      cases e1
      exact k _ _ _ _ _ (p'.flat (.bl _))
theorem ge_or {f g : M PV} {rest : List Expr} (h : PE X a (tE q K mg P f)) (hr : PE X (.BoolOp .Or (b :: rest) pos) (tE q K mg P g)) : PE X (.BoolOp .Or (a :: b :: rest) pos) (tE q K mg P (cOr f g)) :=
  PE.weak (pe_or h hr) fun σ H Q ⟨ρ, B, F, u, ρ', R, e1, k⟩ => by
    obtain ⟨⟨d, ρ1⟩, z1, e1⟩ := bind_some e1
    obtain ⟨b', z2, e1⟩ := bind_some e1
    refine ⟨ρ, B, F, d, ρ1, R, z1, fun x H1 B1 G1 F1 p => ?_⟩
    cases d <;> first | (cases z2; done) | skip
    cases z2
    have p' := p.drop
    cases p.rv
    refine ⟨_, rfl, ?_⟩
    cases b' with
    | true =>
      rw [if_pos rfl] at e1 ⊢
      cases e1
      exact k _ _ _ _ _ (p'.flat (.bl _))
    | false =>
      rw [if_neg Bool.false_ne_true] at e1 ⊢
      exact ⟨ρ1, B1, F1, u, ρ', p'.rel, e1, fun y H2 B2 G2 F2 p2 => k y H2 B2 G2 F2 (p'.toE p2)⟩
theorem ge_not {f : M PV} (h : PE X a (tE q K mg P f)) : PE X (.UnaryOp .Not a pos) (tE q K mg P (cNot f)) :=
  PE.weak (pe_not h) fun σ H Q ⟨ρ, B, F, u, ρ', R, e1, k⟩ => by
    obtain ⟨⟨d, ρ1⟩, z1, e1⟩ := bind_some e1
    obtain ⟨b', z2, e1⟩ := bind_some e1
    cases e1
    refine ⟨ρ, B, F, d, ρ1, R, z1, fun x H1 B1 G1 F1 p => ?_⟩
    cases d <;> first | (cases z2; done) | skip
    cases z2
    have p' := p.drop
    cases p.rv
    exact ⟨_, rfl, k _ _ _ _ _ (p'.flat (.bl _))⟩
theorem ge_if {t : M Bool} {f g : M PV} (ht : PT X c (tT q K mg P t)) (hf : PE X a (tE q K mg P f)) (hg : PE X b (tE q K mg P g)) : PE X (.IfExp c a b pos) (tE q K mg P (cIf t f g)) :=
  PE.weak (pe_ifExp ht hf hg) fun σ H Q ⟨ρ, B, F, u, ρ', R, e1, k⟩ => by
    obtain ⟨⟨d, ρ1⟩, z1, e1⟩ := bind_some e1
    refine ⟨ρ, B, F, d, ρ1, R, z1, fun H1 B1 F1 p => ?_⟩
    cases d with
    | true =>
      rw [if_pos rfl] at e1 ⊢
      exact ⟨ρ1, B1, F1, u, ρ', p.rel, e1, fun y H2 B2 G2 F2 p2 => k y H2 B2 G2 F2 (p.toE p2)⟩
    | false =>
      rw [if_neg Bool.false_ne_true] at e1 ⊢
      exact ⟨ρ1, B1, F1, u, ρ', p.rel, e1, fun y H2 B2 G2 F2 p2 => k y H2 B2 G2 F2 (p.toE p2)⟩
theorem chain_te {g g' : PV → PV → Option PV} {fa fb fc : O} {Q : VK} (ha : NoPk fa ∨ q = true) (hb : NoPk fb ∨ q = true) (h : tE q K mg P (cChain g g' fa fb fc) σ H Q) :
    tChain (rOp K mg g) (rOp K mg g') (tO q K mg P fa) (tO q K mg P fb) (tO q K mg P fc) σ H Q := by
  obtain ⟨ρ, B, F, r, ρ', R, e1, k⟩ := h
  obtain ⟨⟨o1, ρ1⟩, z1, e1⟩ := bind_some e1
  obtain ⟨⟨o2, ρ2⟩, z2, e1⟩ := bind_some e1
  obtain ⟨va, d1, e1⟩ := bind_some e1
  obtain ⟨vb, d2, e1⟩ := bind_some e1
  obtain ⟨r1, gr, e1⟩ := bind_some e1
  obtain ⟨kb, hk, e2⟩ := bind_some e1
  clear e1
  refine ⟨ρ, B, F, o1, ρ1, R, z1, fun x H1 B1 G1 F1 p1 => ?_⟩
  refine ⟨ρ1, B1, F1, o2, ρ2, p1.rel, z2, fun y H2 B2 G2 F2 p2 => ?_⟩
  have np : (∀ v, o1 ≠ .pk v) ∨ (F2 = F1 ∧ Keep [] H1 B1 H2 B2) := ha.imp (fun n => n _ _ _ z1) fun e => (p2.ro e).2
  have ov := p1.ov.over p1.nd p1.sl.mut p2.st.keep np
  obtain ⟨Wa, ra, _⟩ := ov.deref p2.sl d1
  obtain ⟨Wb, rb, _⟩ := p2.ov.deref p2.sl d2
  have st : Step H B F H2 B2 (G2 ++ F2) := (p1.st.trans (p2.st.beside G1)).less fun b hb => List.mem_append_right _ hb
  have ro : q = true → ρ2 = ρ ∧ F2 = F ∧ Keep [] H B H2 B2 := fun e => let ⟨a1, a2, a3⟩ := p1.ro e; let ⟨b1, b2, b3⟩ := p2.ro e; ⟨b1.trans a1, b2.trans a2, a3.trans0 b3⟩
  refine ⟨B2, va, vb, Wa, Wb, r1, ra, rb, gr, fun z H3 B3 G3 rv ng fr kp => ?_⟩
  cases r1 <;> first | (cases hk; done) | skip
  cases hk
  have rv0 := rv
  cases rv0
  refine ⟨_, rfl, ?_⟩
  have sl3 := p2.sl.keep kp MutW.nil fun _ _ h => nomatch h
  have st3 : Step H B F H3 B3 (G2 ++ F2) := st.trans ⟨fun b hb => .inl hb, kp.mono fun _ h => nomatch h⟩
  have ov3 := p2.ov.over (H2 := H3) (B2 := B3) (F2 := F2) p2.nd p2.sl.mut (kp.mono fun _ h => nomatch h) (.inr ⟨rfl, kp⟩)
  cases kb with
  | true =>
    rw [if_pos rfl] at e2 ⊢
    obtain ⟨⟨o3, ρ3⟩, z3, e2⟩ := bind_some e2
    obtain ⟨vb', d3, e2⟩ := bind_some e2
    obtain ⟨vc, d4, e2⟩ := bind_some e2
    obtain ⟨r', gr', e2⟩ := bind_some e2
    cases e2
    refine ⟨ρ2, B3, F2, o3, ρ3, ⟨sl3, nodup_r p2.nd⟩, z3, fun y4 H4 B4 G4 F4 p4 => ?_⟩
    have np4 : (∀ v, o2 ≠ .pk v) ∨ (F4 = F2 ∧ Keep [] H3 B3 H4 B4) := hb.imp (fun n => n _ _ _ z2) fun e => (p4.ro e).2
    have ov4 := ov3.over p2.nd sl3.mut p4.st.keep np4
    obtain ⟨Wb', rb', _⟩ := ov4.deref p4.sl d3
    obtain ⟨Wc, rc, _⟩ := p4.ov.deref p4.sl d4
    have st4 : Step H B F H4 B4 F4 := (st3.trans (p4.st.beside G2)).less fun b hb => List.mem_append_right _ (List.mem_append_right _ hb)
    refine ⟨B4, vb', vc, Wb', Wc, _, rb', rc, gr', fun z H' B' G rv ng fr kp5 => k z H' B' G F4 ?_⟩
    exact fin_new (fun e => let ⟨a1, a2, a3⟩ := ro e; let ⟨b1, b2, b3⟩ := p4.ro e; ⟨b1.trans a1, b2.trans a2, (a3.trans0 kp).trans0 b3⟩) p4.sl (nodup_r p4.nd) st4 rv ng fr kp5
  | false =>
    rw [if_neg Bool.false_ne_true] at e2 ⊢
    cases e2
    exact k _ _ _ [] F2 ⟨.bl _, sl3, nodup_r p2.nd, st3.less fun b hb => List.mem_append_right _ hb, fun e => let ⟨a1, a2, a3⟩ := ro e; ⟨a1, a2, a3.trans0 kp⟩⟩
theorem ge_chain {op op' : CmpOp} {g g' : PV → PV → Option PV} {fa fb fc : O} (ho : OpR X (compareOp op) (rOp K mg g)) (ho' : OpR X (compareOp op') (rOp K mg g')) (ha : PE X a (tO q K mg P fa)) (hb : PE X b (tO q K mg P fb)) (hc : PE X c (tO q K mg P fc))
    (hp : NoPk fa ∨ q = true := by first | exact .inl nopk_sl | exact .inl nopk_tm | exact .inr rfl | assumption) (hp2 : NoPk fb ∨ q = true := by first | exact .inl nopk_sl | exact .inl nopk_tm | exact .inr rfl | assumption)
    (hm : lastMarks [op, op'] [b, c] = false := by with_unfolding_all rfl) : PE X (.Compare a [op, op'] [b, c] pos) (tE q K mg P (cChain g g' fa fb fc)) :=
  PE.weak (pe_chain ho ho' ha hb hc hm) fun _ _ _ h => chain_te hp hp2 h
theorem gt_chain {op op' : CmpOp} {g g' : PV → PV → Option PV} {fa fb fc : O} (ho : OpR X (compareOp op) (rOp K mg g)) (ho' : OpR X (compareOp op') (rOp K mg g')) (ha : PE X a (tO q K mg P fa)) (hb : PE X b (tO q K mg P fb)) (hc : PE X c (tO q K mg P fc))
    (hp : NoPk fa ∨ q = true := by first | exact .inl nopk_sl | exact .inl nopk_tm | exact .inr rfl | assumption) (hp2 : NoPk fb ∨ q = true := by first | exact .inl nopk_sl | exact .inl nopk_tm | exact .inr rfl | assumption)
    (hm : lastMarks [op, op'] [b, c] = false := by with_unfolding_all rfl) : PT X (.Compare a [op, op'] [b, c] pos) (tT q K mg P (mVal (cChain g g' fa fb fc))) :=
  PT.weak (pt_chain ho ho' ha hb hc hm) fun _ _ _ h => chain_te hp hp2 (val_te h)

/-- a value of any kind as a test -/
def mTru (a : O) : M Bool := fun ρ => (a ρ).bind fun z => (deref z.1 z.2).bind fun v => (ptru v).bind fun k => some (k, z.2)
theorem tru_val {a : PV} {k : Bool} (r : RV K mg H B a x W) (e : ptru a = some k) : TruV K x H k := by
  have ee : ∀ {xs : List PV} {ys : List V} {W}, RVs K mg H B xs ys W → (!xs.isEmpty) = !ys.isEmpty := fun r => by cases r <;> rfl
  cases r with
  | non => cases e; rfl
  | bl b => cases e; rfl
  | int i => cases e; rfl
  | str y => exact (guard_some e).elim fun c e => by cases e; exact ⟨sz_le c, rfl⟩
  | tup h r => cases e; exact .inr (.inl ⟨_, h, ee r⟩)
  | lstF h b r => cases e; exact .inl ⟨_, .of h, ee r⟩
  | lstO h b r => cases e; exact .inl ⟨_, .of h, ee r⟩
  | dicO h b q r =>
    cases e
    refine .inr (.inr ⟨_, h, ?_⟩)
    rename_i ks ps _
    cases ps <;> cases ks <;> first | rfl | simp at q
  | _ => cases e
theorem gt_tru {fa : O} (hK : X.K = K) (h : PE X a (tO q K mg P fa)) (he : ∀ whole, isTrue a X.env whole = (do let v ← whole; standAt a.pos; holding [v] (truthy v)) := by intro _; rfl) : PT X a (tT q K mg P (mTru fa)) := by
  subst hK
  refine PT.weak (pt_truth h he) fun σ H Q ⟨ρ, B, F, u, ρ', R, e1, k⟩ => ?_
  obtain ⟨⟨o1, ρ1⟩, z1, e1⟩ := bind_some e1
  obtain ⟨va, d1, e1⟩ := bind_some e1
  obtain ⟨kk, gr, e1⟩ := bind_some e1
  cases e1
  refine ⟨ρ, B, F, o1, ρ1, R, z1, fun x H1 B1 G1 F1 p1 => ?_⟩
  obtain ⟨Wa, ra, _⟩ := p1.ov.deref p1.sl d1
  exact ⟨_, tru_val ra gr, k H1 B1 F1 ⟨p1.sl, nodup_r p1.nd, p1.st.less fun b hb => List.mem_append_right _ hb, p1.ro⟩⟩
end
end GX

/-! GX: displays, subscripts, slices. -/
namespace GX
open PySem PySem.Spec PyProof.Rows L2

def tmVals : List Opd → Option (List PV)
  | [] => some []
  | .tm v :: os => (tmVals os).bind fun vs => some (v :: vs)
  | _ :: _ => none
def cTup (a : M (List Opd)) : M PV := fun ρ => (a ρ).bind fun z => (tmVals z.1).bind fun vs => guard (vs.length ≤ 16777216) (some (.tup vs, z.2))
def cLst (a : M (List Opd)) : M PV := fun ρ => (a ρ).bind fun z => (tmVals z.1).bind fun vs => guard (vs.length ≤ 16777216) (some (.lst true vs, z.2))
/-- a name's value leaves it -/
def cMov (i : Nat) : M PV := fun ρ => (ρ[i]?).bind fun s => match s with
  | .val v => if v.pure then some (v, ρ) else some (v, ρ.set i .un)
  | _ => none
def pgetI : PV → PV → Option PV
  | .tup xs, .int i => atI xs i
  | .lst _ xs, .int i => atI xs i
  | .zls xs, .int i => atI xs i
  | .str z, .int i => guard (z.length ≤ 16777216) ((atI z.cps.toList i).map fun c => .str ⟨#[c]⟩)
  | .dic _ kvs, k => (toKey k).bind fun k => lookK kvs k
  | _, _ => none
def cSub (a b : O) : M PV := fun ρ => (a ρ).bind fun z1 => (b z1.2).bind fun z2 => (deref z1.1 z2.2).bind fun va => (deref z2.1 z2.2).bind fun vb => (pgetI va vb).bind fun c => if c.pure then some (c, z2.2) else none
def oSub (a b : O) : O := fun ρ => (a ρ).bind fun z1 => (b z1.2).bind fun z2 => (deref z1.1 z2.2).bind fun va => (deref z2.1 z2.2).bind fun vb => (pgetI va vb).bind fun c =>
  if c.pure then some (.tm c, z2.2) else match z1.1 with | .tm _ => none | _ => some (.pk c, z2.2)
def cSubM (f : M PV) (b : O) : M PV := fun ρ => (f ρ).bind fun z1 => (b z1.2).bind fun z2 => (deref z2.1 z2.2).bind fun vb => (pgetI z1.1 vb).bind fun c => some (c, z2.2)

section
variable {q : Bool} {K : PySem.W.Frag} {mg : Str → Option Value} {P : List V} {H H' H1 H2 : Hp} {B B' B1 B2 : Addr → Prop} {x y : V} {v w r c : PV} {xs : List PV} {ys : List V} {F F' F1 F2 G G1 G2 W : List Addr} {ρ ρ' ρ1 ρ2 : Rho} {σ : Sg} {X : Cx} {a b e : Expr} {pos : Pos}

theorem ite_some {α : Type} {c : Prop} [Decidable c] {a b : α} (h : (if c then some a else none) = some b) : c ∧ a = b := by
  split at h
  · exact ⟨by assumption, Option.some.inj h⟩
  · cases h
theorem ovs_tm : ∀ {os : List Opd} {xs : List V} {G : List Addr} {vs : List PV}, OVs K mg σ H B F os xs G → tmVals os = some vs → RVs K mg H B vs xs G
  | [], _, _, _, .nil, e => by cases e; exact .nil
  | .tm u :: os, _, _, vs, .cons h t, e => by
    obtain ⟨us, e2, e⟩ := bind_some e
    cases e
    exact .cons h (ovs_tm t e2)
  | .sl _ :: os, _, _, vs, .cons h t, e => nomatch e
  | .pk _ :: os, _, _, vs, .cons h t, e => nomatch e
theorem ge_tup {es : List Expr} {f : M (List Opd)} {k : Nat} (h : PA X es (tA q K mg P f)) : PE X (.Tuple es k pos) (tE q K mg P (cTup f)) :=
  PE.weak (pe_tup h) fun σ H Q ⟨ρ, B, F, u, ρ', R, e1, k⟩ => by
    obtain ⟨⟨os, ρ1⟩, z1, e1⟩ := bind_some e1
    obtain ⟨vs, z2, e1⟩ := bind_some e1
    obtain ⟨c, e1⟩ := guard_some e1
    cases e1
    refine ⟨ρ, B, F, os, ρ1, R, z1, fun xs H1 B1 G1 F1 p => ?_⟩
    have rv := ovs_tm p.ov z2
    have l := rv.length
    refine ⟨sz_le (by omega), fun a ha => k _ _ B1 G1 F1 ⟨.tup (.of upd_same) (rv.keep0 (Keep.new ha)), p.sl.keep (Keep.new ha) MutW.nil fun _ _ h => (nomatch h), p.nd, ?_, ?_⟩⟩
    · exact p.st.trans ⟨fun b hb => .inl hb, (Keep.new ha).mono fun _ h => nomatch h⟩
    · exact fun e => let ⟨a1, a2, a3⟩ := p.ro e; ⟨a1, a2, a3.trans0 (Keep.new ha)⟩
theorem ge_lst {es : List Expr} {f : M (List Opd)} (h : PA X es (tA q K mg P f)) : PE X (.List es pos) (tE q K mg P (cLst f)) :=
  PE.weak (pe_lst h) fun σ H Q ⟨ρ, B, F, u, ρ', R, e1, k⟩ => by
    obtain ⟨⟨os, ρ1⟩, z1, e1⟩ := bind_some e1
    obtain ⟨vs, z2, e1⟩ := bind_some e1
    obtain ⟨c, e1⟩ := guard_some e1
    cases e1
    refine ⟨ρ, B, F, os, ρ1, R, z1, fun xs H1 B1 G1 F1 p => ?_⟩
    have rv := ovs_tm p.ov z2
    have l := rv.length
    refine ⟨sz_le (by omega), fun a ha => ?_⟩
    have kp : Keep [] H1 B1 (upd H1 a (.lst xs)) (own1 B1 a) := Keep.newO ha
    refine k _ _ (own1 B1 a) (a :: G1) F1 ⟨.lstO upd_same (.inl rfl) (rv.keep0 kp), p.sl.keep kp MutW.nil fun _ _ h => (nomatch h), ?_, ?_, ?_⟩
    · refine List.nodup_cons.mpr ⟨fun hm => ?_, p.nd⟩
      have : Mut (H1 a) := by
        rcases List.mem_append.mp hm with hm | hm
        · exact (rv.mut a hm).2
        · exact (p.sl.mut a hm).2
      rw [ha] at this
      exact this
    · exact p.st.trans ⟨fun b hb => (List.mem_cons.mp hb).elim (fun e => .inr (e ▸ ha)) .inl, kp.mono fun _ h => nomatch h⟩
    · exact fun e => let ⟨a1, a2, a3⟩ := p.ro e; ⟨a1, a2, a3.trans0 kp⟩
theorem ge_mov {i : Nat} (h : PE X e (tVar i)) : PE X e (tE false K mg P (cMov i)) := by
  refine PE.weak h fun σ H Q ⟨ρ, B, F, u, ρ', R, e1, k⟩ => ?_
  obtain ⟨s', z1, z2⟩ := bind_some e1
  cases s' with
  | un => cases z2
  | ref v => cases z2
  | val v =>
    by_cases hp : v.pure = true
    · simp only [hp, if_true] at z2
      cases z2
      have g : (ρ[i]?).bind Slot.get = some u := by rw [z1]; rfl
      obtain ⟨x, hx⟩ := slot_at R.slots g
      exact ⟨x, hx, k x H B [] F ⟨pure_get R.slots g hp hx, R.slots, R.nd, Step.refl, fun _ => ⟨rfl, rfl, Keep.refl⟩⟩⟩
    · simp only [hp] at z2
      cases z2
      obtain ⟨y, p, F1, G, F2, h1, h2, h3, h4, h5⟩ := R.slots.at z1
      have nd := R.nd
      rw [h4] at nd
      obtain ⟨k1, _⟩ := h5 H B [] Keep.refl MutW.nil (fun _ _ h => nomatch h) (fun _ _ h => nomatch h)
      cases h3 with
      | val r =>
        refine ⟨_, h1, k _ H B G (F1 ++ [] ++ F2) ⟨r, k1 .un [] .un, ?_, ⟨fun b hb => .inl ?_, Keep.refl⟩, fun z => nomatch z⟩⟩
        · rw [List.append_nil]
          rw [List.append_assoc] at nd
          have := List.nodup_append.mp nd
          refine List.nodup_append.mpr ⟨nodup_l this.2.1, ?_, fun a1 m1 a2 m2 => ?_⟩
          · refine List.nodup_append.mpr ⟨this.1, nodup_r this.2.1, fun a1 m1 a2 m2 => this.2.2 a1 m1 a2 (List.mem_append_right _ m2)⟩
          · rcases List.mem_append.mp m2 with m2 | m2
            · exact fun e => this.2.2 a2 m2 a1 (List.mem_append_left _ m1) e.symm
            · exact (List.nodup_append.mp this.2.1).2.2 a1 m1 a2 m2
        · rw [h4]
          simp at hb ⊢
          rcases hb with h | h | h
          · exact .inr (.inl h)
          · exact .inl h
          · exact .inr (.inr h)

/-! ### subscripts -/
section
variable (K mg)
def rIxP : R2 := fun x y H Q => ∃ B va vb Wa Wb c, RV K mg H B va x Wa ∧ RV K mg H B vb y Wb ∧ pgetI va vb = some c ∧ ∀ z W, RV K mg H B c z W → W.Sublist Wa → Q z H
end
theorem atI_map {α β : Type} {xs : List α} {ys : List β} (hl : xs.length = ys.length) {i : Int} {c : α} (h : atI xs i = some c) : ∃ j : Nat, xs[j]? = some c ∧ ∀ d, ys[j]? = some d → atI ys i = some d := by
  unfold atI at h
  obtain ⟨j, e1, e2⟩ := bind_some h
  refine ⟨j, e2, fun d hd => ?_⟩
  unfold atI
  rw [← hl, e1]
  exact hd
theorem RVs.atI (r : RVs K mg H B xs ys W) {i : Int} (h : L2.atI xs i = some c) : ∃ z G, L2.atI ys i = some z ∧ RV K mg H B c z G ∧ G.Sublist W := by
  obtain ⟨j, e1, e2⟩ := atI_map r.length h
  obtain ⟨z, F1, G, F2, h1, h2, h3, _⟩ := r.at e1
  refine ⟨z, G, e2 z h1, h2, ?_⟩
  rw [h3, List.append_assoc]
  exact (List.sublist_append_left _ _).trans (List.sublist_append_right _ _)
theorem ix_dict (hu : X.A.units + 1 < cLine) : IxR X (fun x y H Q => ∃ a v, x = .ref a ∧ DGet H a y (some v) ∧ Q v H) := by
  intro value slice pins s σ H x y v u Q I rx ry ⟨a, z, e, g, q⟩ hs
  subst e
  cases rx
  exact tail_any (dict_typeIs I g) PySem.F.slot_dict_getitem.lookup (d_getItem hu I g ry fun w' s3 I3 rw' => ⟨z, H, I3, rw', q⟩) hs
theorem ix_all (hK : X.K = K) (hu : X.A.units + 1 < cLine) : IxR X (rIxP K mg) := by
  subst hK
  intro value slice pins s σ H x y v u Q I rx ry ⟨B, va, vb, Wa, Wb, c, ra, rb, g, k⟩ hs
  unfold pgetI at g
  split at g
  · cases ra with
    | tup h r =>
    cases rb
    obtain ⟨z, G, h1, h2, h3⟩ := r.atI g
    exact ix_tup value slice pins s σ H _ _ v u Q I rx ry ⟨_, _, _, z, rfl, rfl, h, h1, k z G h2 h3⟩ hs
  · obtain ⟨a, ys, W, rfl, h, r, hW⟩ := ra.lsts
    cases rb
    obtain ⟨z, G, h1, h2, h3⟩ := r.atI g
    exact ix_list value slice pins s σ H _ _ v u Q I rx ry ⟨_, _, _, z, rfl, rfl, .of h, h1, k z G h2 (h3.trans hW)⟩ hs
  · cases ra with
    | zls h r =>
    cases rb
    obtain ⟨z, G, h1, h2, h3⟩ := r.atI g
    exact ix_list value slice pins s σ H _ _ v u Q I rx ry ⟨_, _, _, z, rfl, rfl, h.sq, h1, k z G h2 h3⟩ hs
  · obtain ⟨c, g⟩ := guard_some g
    obtain ⟨d, gd, rfl⟩ := Option.map_eq_some_iff.mp g
    cases ra
    cases rb
    exact ix_str value slice pins s σ H _ _ v u Q I rx ry ⟨_, _, d, rfl, rfl, sz_le c, gd, k _ [] (.str _) (List.nil_sublist _)⟩ hs
  · obtain ⟨kk, e1, g⟩ := bind_some g
    obtain rfl := toKey_ok rb e1
    obtain ⟨a, ks, W, rfl, hb, e2, r2, hW⟩ := ra.dics
    have lk := look_ok (k := kk) e2 r2
    rw [g] at lk
    obtain ⟨z, G, h1, h2, h3⟩ := lk
    exact ix_dict hu value slice pins s σ H _ _ v u Q I rx ry ⟨_, z, rfl, .inl ⟨ks, kk, hb, rfl, h1.symm⟩, k z G h2 (h3.trans hW)⟩ hs
  · cases g

theorem ge_sub {fa fb : O} (hK : X.K = K) (hu : X.A.units + 1 < cLine) (ha : PE X a (tO q K mg P fa)) (hb : PE X b (tO q K mg P fb)) (hs : PlainIx b := by intro _ _; rfl)
    (hp : NoPk fa ∨ q = true := by first | exact .inl nopk_sl | exact .inl nopk_tm | exact .inr rfl | assumption) : PE X (.Subscript a b pos) (tE q K mg P (cSub fa fb)) := by
  refine PE.weak (pe_ix (ix_all (mg := mg) hK hu) ha hb hs) fun σ H Q ⟨ρ, B, F, r, ρ', R, e1, k⟩ => ?_
  obtain ⟨⟨o1, ρ1⟩, z1, e1⟩ := bind_some e1
  obtain ⟨⟨o2, ρ2⟩, z2, e1⟩ := bind_some e1
  obtain ⟨va, d1, e1⟩ := bind_some e1
  obtain ⟨vb, d2, e1⟩ := bind_some e1
  obtain ⟨c, gc, e1⟩ := bind_some e1
  obtain ⟨hpure, e1⟩ := ite_some e1
  cases e1
  refine ⟨ρ, B, F, o1, ρ1, R, z1, fun x H1 B1 G1 F1 p1 => ?_⟩
  refine ⟨ρ1, B1, F1, o2, ρ2, p1.rel, z2, fun y H2 B2 G2 F2 p2 => ?_⟩
  have np : (∀ v, o1 ≠ .pk v) ∨ (F2 = F1 ∧ Keep [] H1 B1 H2 B2) := hp.imp (fun n => n _ _ _ z1) fun e => (p2.ro e).2
  have ov := p1.ov.over p1.nd p1.sl.mut p2.st.keep np
  obtain ⟨Wa, ra, _⟩ := ov.deref p2.sl d1
  obtain ⟨Wb, rb, _⟩ := p2.ov.deref p2.sl d2
  have st : Step H B F H2 B2 F2 := (p1.st.trans (p2.st.beside G1)).less fun b hb => List.mem_append_right _ (List.mem_append_right _ hb)
  refine ⟨B2, va, vb, Wa, Wb, _, ra, rb, gc, fun z W rz sub => k z H2 B2 [] F2 ?_⟩
  have := rz.pure hpure
  subst this
  exact ⟨rz, p2.sl, nodup_r p2.nd, st, fun e => let ⟨a1, a2, a3⟩ := p1.ro e; let ⟨b1, b2, b3⟩ := p2.ro e; ⟨b1.trans a1, b2.trans a2, a3.trans0 b3⟩⟩
theorem go_sub {fa fb : O} (hK : X.K = K) (hu : X.A.units + 1 < cLine) (ha : PE X a (tO q K mg P fa)) (hb : PE X b (tO q K mg P fb)) (hs : PlainIx b := by intro _ _; rfl)
    (hp : NoPk fa ∨ q = true := by first | exact .inl nopk_sl | exact .inl nopk_tm | exact .inr rfl | assumption) : PE X (.Subscript a b pos) (tO q K mg P (oSub fa fb)) := by
  refine PE.weak (pe_ix (ix_all (mg := mg) hK hu) ha hb hs) fun σ H Q ⟨ρ, B, F, r, ρ', R, e1, k⟩ => ?_
  obtain ⟨⟨o1, ρ1⟩, z1, e1⟩ := bind_some e1
  obtain ⟨⟨o2, ρ2⟩, z2, e1⟩ := bind_some e1
  obtain ⟨va, d1, e1⟩ := bind_some e1
  obtain ⟨vb, d2, e1⟩ := bind_some e1
  obtain ⟨c, gc, e1⟩ := bind_some e1
  refine ⟨ρ, B, F, o1, ρ1, R, z1, fun x H1 B1 G1 F1 p1 => ?_⟩
  refine ⟨ρ1, B1, F1, o2, ρ2, p1.rel, z2, fun y H2 B2 G2 F2 p2 => ?_⟩
  have np : (∀ v, o1 ≠ .pk v) ∨ (F2 = F1 ∧ Keep [] H1 B1 H2 B2) := hp.imp (fun n => n _ _ _ z1) fun e => (p2.ro e).2
  have ov := p1.ov.over p1.nd p1.sl.mut p2.st.keep np
  obtain ⟨Wa, ra, wa⟩ := ov.deref p2.sl d1
  obtain ⟨Wb, rb, _⟩ := p2.ov.deref p2.sl d2
  have st : Step H B F H2 B2 F2 := (p1.st.trans (p2.st.beside G1)).less fun b hb => List.mem_append_right _ (List.mem_append_right _ hb)
  have ro : q = true → ρ2 = ρ ∧ F2 = F ∧ Keep [] H B H2 B2 := fun e => let ⟨a1, a2, a3⟩ := p1.ro e; let ⟨b1, b2, b3⟩ := p2.ro e; ⟨b1.trans a1, b2.trans a2, a3.trans0 b3⟩
  refine ⟨B2, va, vb, Wa, Wb, c, ra, rb, gc, fun z W rz sub => ?_⟩
  split at e1
  · rename_i hpure
    cases e1
    have := rz.pure hpure
    subst this
    exact k z H2 B2 [] F2 ⟨rz, p2.sl, nodup_r p2.nd, st, ro⟩
  · have hG : ∀ b ∈ W, b ∈ F2 → True := fun _ _ _ => trivial
    cases o1 with
    | tm u => cases e1
    | sl i =>
      cases e1
      obtain ⟨_, rfl⟩ := p1.ov
      exact k z H2 B2 [] F2 ⟨⟨rfl, W, rz, fun b hb => by simpa using wa b (sub.subset hb)⟩, p2.sl, nodup_r p2.nd, st, ro⟩
    | pk u =>
      cases e1
      obtain ⟨rfl, _⟩ := p1.ov
      exact k z H2 B2 [] F2 ⟨⟨rfl, W, rz, fun b hb => by simpa using wa b (sub.subset hb)⟩, p2.sl, nodup_r p2.nd, st, ro⟩
theorem ge_subM {f : M PV} {fb : O} (hK : X.K = K) (hu : X.A.units + 1 < cLine) (ha : PE X a (tE q K mg P f)) (hb : PE X b (tO q K mg P fb)) (hs : PlainIx b := by intro _ _; rfl) : PE X (.Subscript a b pos) (tE q K mg P (cSubM f fb)) := by
  refine PE.weak (pe_ix (ix_all (mg := mg) hK hu) ha hb hs) fun σ H Q ⟨ρ, B, F, r, ρ', R, e1, k⟩ => ?_
  obtain ⟨⟨va, ρ1⟩, z1, e1⟩ := bind_some e1
  obtain ⟨⟨o2, ρ2⟩, z2, e1⟩ := bind_some e1
  obtain ⟨vb, d2, e1⟩ := bind_some e1
  obtain ⟨c, gc, e1⟩ := bind_some e1
  cases e1
  refine ⟨ρ, B, F, va, ρ1, R, z1, fun x H1 B1 G1 F1 p1 => ?_⟩
  refine ⟨ρ1, B1, F1, o2, ρ2, p1.rel, z2, fun y H2 B2 G2 F2 p2 => ?_⟩
  have ra := p1.rv.over p1.nd p1.sl.mut p2.st.keep
  obtain ⟨Wb, rb, _⟩ := p2.ov.deref p2.sl d2
  have nd : (G1 ++ F2).Nodup := nodup_beside p1.nd p1.rv.mut (nodup_r p2.nd) (p2.st.less fun b hb => List.mem_append_right _ hb)
  refine ⟨B2, va, vb, G1, Wb, _, ra, rb, gc, fun z W rz sub => k z H2 B2 W F2 ⟨rz, p2.sl, nd.sublist (sub.append_right _), ?_, ?_⟩⟩
  · exact (p1.st.trans (p2.st.beside G1)).less fun b hb => by
      rcases List.mem_append.mp hb with h | h
      · exact List.mem_append_left _ (sub.subset h)
      · exact List.mem_append_right _ (List.mem_append_right _ h)
  · exact fun e => let ⟨a1, a2, a3⟩ := p1.ro e; let ⟨b1, b2, b3⟩ := p2.ro e; ⟨b1.trans a1, b2.trans a2, a3.trans0 b3⟩

/-! ### slices -/
section
variable (q K mg P)
def tP (f : M (Option Int)) : TO := fun σ H Q => ∃ ρ B F b ρ', Rel K mg H B P ρ σ F ∧ f ρ = some (b, ρ') ∧ ∀ H' B' F', PoT q K mg P σ ρ H B F ρ' H' B' F' → Q b H'
end
end
def mNo : M (Option Int) := fun ρ => some (none, ρ)
def asI : PV → Option Int
  | .int i => some i
  | _ => none
def mSome (f : M PV) : M (Option Int) := fun ρ => (f ρ).bind fun z => (asI z.1).bind fun i => some (some i, z.2)
def cut {α : Type} (xs : List α) (lo hi : Option Int) : List α := (xs.drop (HT.sIx xs.length 0 lo)).take (HT.sIx xs.length xs.length hi - HT.sIx xs.length 0 lo)
def psl : PV → Option Int → Option Int → Option PV
  | .tup xs, lo, hi => guard (PV.pures xs = true) (some (.tup (cut xs lo hi)))
  | .lst _ xs, lo, hi => guard (PV.pures xs = true) (some (.lst true (cut xs lo hi)))
  | .str z, lo, hi => guard (z.length ≤ 16777216) (some (.str (cutS z lo hi)))
  | _, _, _ => none
def cSl (a : O) (lo hi : M (Option Int)) : M PV := fun ρ => (a ρ).bind fun z1 => (lo z1.2).bind fun z2 => (hi z2.2).bind fun z3 => (deref z1.1 z3.2).bind fun va => (psl va z2.1 z3.1).bind fun r => some (r, z3.2)
section
variable {q : Bool} {K : PySem.W.Frag} {mg : Str → Option Value} {P : List V} {H H' H1 H2 : Hp} {B B' B1 B2 : Addr → Prop} {x y : V} {v w r c : PV} {xs : List PV} {ys : List V} {F F' F1 F2 G G1 G2 W : List Addr} {ρ ρ' ρ1 ρ2 : Rho} {σ : Sg} {X : Cx} {a b e : Expr} {pos p2 : Pos}
theorem PO.weak {e : Option Expr} {t t' : TO} (h : L2.PO X e t) (w : ∀ σ H Q, t' σ H Q → t σ H Q) : L2.PO X e t' := ⟨fun pins s σ H Q I q => h.run pins s σ H Q I (w σ H Q q)⟩
theorem gp_none : L2.PO X none (tP q K mg P mNo) := PO.weak po_none fun σ H Q ⟨ρ, B, F, u, ρ', R, e1, k⟩ => by
  cases e1
  exact k H B F ⟨R.slots, R.nd, Step.refl, fun _ => ⟨rfl, rfl, Keep.refl⟩⟩
theorem gp_some {f : M PV} (h : PE X e (tE q K mg P f)) : L2.PO X (some e) (tP q K mg P (mSome f)) := PO.weak (po_some h) fun σ H Q ⟨ρ, B, F, u, ρ', R, e1, k⟩ => by
  obtain ⟨⟨v, ρ1⟩, z1, e1⟩ := bind_some e1
  obtain ⟨i, z2, e1⟩ := bind_some e1
  cases e1
  refine ⟨ρ, B, F, v, ρ1, R, z1, fun x H' B' G F' p => ?_⟩
  cases v <;> first | (cases z2; done) | skip
  cases z2
  have p' := p.drop
  cases p.rv
  exact ⟨_, rfl, k _ _ _ p'⟩
section
variable (K mg)
def rSlP : V → Option Int → Option Int → Hp → VK → Prop := fun x lo hi H Q => ∃ B va Wa r, RV K mg H B va x Wa ∧ psl va lo hi = some r ∧ New K mg H B r Q
end
theorem RVs.cut (r : RVs K mg H B xs ys []) (lo hi : Option Int) : RVs K mg H B (GX.cut xs lo hi) (cutV ys lo hi) [] := by
  unfold GX.cut cutV
  rw [r.length]
  exact (r.drop (n := _)).take (n := _)
theorem cut_all {α : Type} {xs : List α} {lo hi : Option Int} (h : HT.sIx xs.length 0 lo = 0 ∧ HT.sIx xs.length xs.length hi = xs.length) : cut xs lo hi = xs := by
  unfold cut
  rw [h.1, h.2]
  simp
theorem sl_all (hK : X.K = K) : SlR X (rSlP K mg) := by
  subst hK
  intro pins s σ H x v vl vu lo hi sl Q I rx hs pl pu ⟨B, va, Wa, r, ra, g, k⟩
  unfold psl at g
  split at g
  · obtain ⟨c, g⟩ := guard_some g
    cases g
    cases ra with
    | tup h r =>
    have r := r.pures0 c
    refine sl_tupA pins s σ H _ v vl vu _ _ sl Q I rx hs pl pu ⟨_, _, rfl, h, fun hw => ?_, fun _ p hp => k.tup (r.cut _ _) hp⟩
    have l := r.length
    rw [← l] at hw
    rw [cut_all hw] at k
    exact k.pure (.tup h r)
  · obtain ⟨c, g⟩ := guard_some g
    cases g
    obtain ⟨a, ys1, rfl, ha, r1⟩ := ra.lst c
    exact sl_list pins s σ H _ v vl vu _ _ sl Q I rx hs pl pu ⟨_, _, rfl, .of ha, fun p hp => k.list (r1.cut _ _) hp⟩
  · obtain ⟨c, g⟩ := guard_some g
    cases g
    cases ra
    exact sl_str pins s σ H _ v vl vu _ _ sl Q I rx hs pl pu ⟨_, rfl, sz_le c, k.pure (.str _)⟩
  · cases g
theorem ge_sl {fa : O} {lo hi : Option Expr} {fl fh : M (Option Int)} (hK : X.K = K) (ha : PE X a (tO q K mg P fa)) (hl : L2.PO X lo (tP q K mg P fl)) (hh : L2.PO X hi (tP q K mg P fh))
    (hp : NoPk fa ∨ q = true := by first | exact .inl nopk_sl | exact .inl nopk_tm | exact .inr rfl | assumption) : PE X (.Subscript a (.Slice lo hi none p2) pos) (tE q K mg P (cSl fa fl fh)) := by
  refine PE.weak (pe_slice (sl_all (mg := mg) hK) ha hl hh) fun σ H Q ⟨ρ, B, F, r, ρ', R, e1, k⟩ => ?_
  obtain ⟨⟨o1, ρ1⟩, z1, e1⟩ := bind_some e1
  obtain ⟨⟨i2, ρ2⟩, z2, e1⟩ := bind_some e1
  obtain ⟨⟨i3, ρ3⟩, z3, e1⟩ := bind_some e1
  obtain ⟨va, d1, e1⟩ := bind_some e1
  obtain ⟨r, gr, e1⟩ := bind_some e1
  cases e1
  refine ⟨ρ, B, F, o1, ρ1, R, z1, fun x H1 B1 G1 F1 p1 => ?_⟩
  refine ⟨ρ1, B1, F1, i2, ρ2, p1.rel, z2, fun H2 B2 F2 p2 => ?_⟩
  refine ⟨ρ2, B2, F2, i3, ρ3, p2.rel, z3, fun H3 B3 F3 p3 => ?_⟩
  have p23 := p2.trans p3
  have np : (∀ v, o1 ≠ .pk v) ∨ (F3 = F1 ∧ Keep [] H1 B1 H3 B3) := hp.imp (fun n => n _ _ _ z1) fun e => (p23.ro e).2
  have ov := p1.ov.over p1.nd p1.sl.mut p23.st.keep np
  obtain ⟨Wa, ra, _⟩ := ov.deref p23.sl d1
  have st : Step H B F H3 B3 F3 := (p1.st.trans (p23.st.beside G1)).less fun b hb => List.mem_append_right _ hb
  refine ⟨B3, va, Wa, _, ra, gr, fun z H' B' G rv ng fr kp => k z H' B' G F3 ?_⟩
  exact fin_new (fun e => let ⟨a1, a2, a3⟩ := p1.ro e; let ⟨b1, b2, b3⟩ := p23.ro e; ⟨b1.trans a1, b2.trans a2, a3.trans0 b3⟩) p23.sl p23.nd st rv ng fr kp
end
end GX

/-! GX: built-in functions by values. -/
namespace GX
open PySem PySem.Spec PyProof.Rows L2

def intsOf : List PV → Option (List Int)
  | [] => some []
  | .int i :: xs => (intsOf xs).bind fun ns => some (i :: ns)
  | _ :: _ => none
def blsOf : List PV → Option (List Bool)
  | [] => some []
  | .bl i :: xs => (blsOf xs).bind fun ns => some (i :: ns)
  | _ :: _ => none
def plen : List PV → Option PV
  | [.tup xs] => some (.int xs.length)
  | [.lst _ xs] => some (.int xs.length)
  | [.zls xs] => some (.int xs.length)
  | [.str z] => guard (z.length ≤ 16777216) (some (.int z.length))
  | [.dic true kvs] => some (.int kvs.length)
  | _ => none
def psum : List PV → Option PV
  | [.lst _ xs] => (intsOf xs).bind fun ns => some (.int ns.sum)
  | [.tup xs] => (intsOf xs).bind fun ns => some (.int ns.sum)
  | _ => none
def maxI : List Int → Int
  | [] => 0
  | n :: ns => ns.foldl max n
def minI : List Int → Int
  | [] => 0
  | n :: ns => ns.foldl min n
def pmax : List PV → Option PV
  | [.lst _ xs] => (intsOf xs).bind fun ns => guard (ns ≠ []) (some (.int (maxI ns)))
  | [.int i, .int j] => some (.int (if j > i then j else i))
  | _ => none
def pmin : List PV → Option PV
  | [.lst _ xs] => (intsOf xs).bind fun ns => guard (ns ≠ []) (some (.int (minI ns)))
  | [.int i, .int j] => some (.int (if j < i then j else i))
  | _ => none
def pabs : List PV → Option PV
  | [.int i] => some (.int (if i < 0 then -i else i))
  | _ => none
def pint : List PV → Option PV
  | [.int i] => some (.int i)
  | [.bl k] => some (.int (if k then 1 else 0))
  | _ => none
def plist : List PV → Option PV
  | [.tup xs] => guard (PV.pures xs = true) (some (.lst true xs))
  | [.lst _ xs] => guard (PV.pures xs = true) (some (.lst true xs))
  | [.zls xs] => guard (PV.pures xs = true) (some (.lst true xs))
  | _ => none
def ptuple : List PV → Option PV
  | [.tup xs] => guard (PV.pures xs = true) (some (.tup xs))
  | [.lst _ xs] => guard (PV.pures xs = true) (some (.tup xs))
  | _ => none
def pall : List PV → Option PV
  | [.lst _ xs] => (blsOf xs).bind fun bs => some (.bl (bs.all id))
  | _ => none
def pany : List PV → Option PV
  | [.lst _ xs] => (blsOf xs).bind fun bs => some (.bl (bs.any id))
  | _ => none
def tab (T : String) (yes : List String) : Option Bool := if T ∈ yes then some true else if T ∈ ["int", "str", "tuple", "list", "dict", "bool"] then some false else none
def isi : PV → String → Option Bool
  | .non, T => tab T []
  | .bl _, T => tab T ["bool", "int"]
  | .int _, T => tab T ["int"]
  | .str _, T => tab T ["str"]
  | .tup _, T => tab T ["tuple"]
  | .lst _ _, T => tab T ["list"]
  | .dic _ _, T => tab T ["dict"]
  | _, _ => none
def pisi : List PV → Option PV
  | [v, .ty T] => (isi v T).map .bl
  | _ => none
/-- sorted, of data that are alike -/
def sortD (xs : List PV) (ds : List PyData) : List PV := ((xs.zip ds).mergeSort (PySem.W.dataLe false Prod.snd)).map Prod.fst
def sortOk (ds : List PyData) : Bool := (ds.all fun d => ds.all fun e => PySem.W.alike d e) && ((ds.all fun d => match d with | .tuple (_ :: _) => true | _ => false) || ds.all fun d => match d with | .none => false | .tuple _ => false | _ => true) && (ds.all fun d => decide (d.depth ≤ 60))
def psortL (xs : List PV) : Option PV := (toDs xs).bind fun ds => guard (sortOk ds = true ∧ PV.pures xs = true ∧ xs.length ≤ 16777216) (some (.lst true (sortD xs ds)))
def psorted : List PV → Option PV
  | [.lst _ xs] => psortL xs
  | _ => none

section
variable {K : PySem.W.Frag} {mg : Str → Option Value} {H H' : Hp} {B B' : Addr → Prop} {x y : V} {v w r : PV} {xs : List PV} {ys : List V} {G F W : List Addr} {Q : VK} {X : Cx}
theorem pr1 {R : PV → V → Prop} {vs : List V} (p : Paired R [v] vs) : ∃ x, vs = [x] ∧ R v x := by
  cases p with | cons a b => cases b; exact ⟨_, rfl, a⟩
theorem pr2 {R : PV → V → Prop} {vs : List V} (p : Paired R [v, w] vs) : ∃ x y, vs = [x, y] ∧ R v x ∧ R w y := by
  cases p with | cons a b => cases b with | cons b c => cases c; exact ⟨_, _, rfl, a, b⟩
theorem ints_ok : ∀ {xs : List PV} {ys : List V} {W : List Addr} {ns : List Int}, RVs K mg H B xs ys W → intsOf xs = some ns → ys = ns.map V.int
  | _, _, _, _, .nil, e => by cases e; rfl
  | .int i :: xs, _, _, _, .cons r t, e => by
    obtain ⟨ns, e1, e⟩ := bind_some e
    cases e
    cases r
    rw [ints_ok t e1]
    rfl
  | .non :: xs, _, _, _, .cons r t, e => nomatch e
  | .bl _ :: xs, _, _, _, .cons r t, e => nomatch e
  | .str _ :: xs, _, _, _, .cons r t, e => nomatch e
  | .ty _ :: xs, _, _, _, .cons r t, e => nomatch e
  | .fn _ :: xs, _, _, _, .cons r t, e => nomatch e
  | .tup _ :: xs, _, _, _, .cons r t, e => nomatch e
  | .lst _ _ :: xs, _, _, _, .cons r t, e => nomatch e
  | .zls _ :: xs, _, _, _, .cons r t, e => nomatch e
  | .dic _ _ :: xs, _, _, _, .cons r t, e => nomatch e
  | .ins _ _ _ :: xs, _, _, _, .cons r t, e => nomatch e
theorem bls_ok : ∀ {xs : List PV} {ys : List V} {W : List Addr} {ns : List Bool}, RVs K mg H B xs ys W → blsOf xs = some ns → ys = ns.map V.bl
  | _, _, _, _, .nil, e => by cases e; rfl
  | .bl i :: xs, _, _, _, .cons r t, e => by
    obtain ⟨ns, e1, e⟩ := bind_some e
    cases e
    cases r
    rw [bls_ok t e1]
    rfl
  | .non :: xs, _, _, _, .cons r t, e => nomatch e
  | .int _ :: xs, _, _, _, .cons r t, e => nomatch e
  | .str _ :: xs, _, _, _, .cons r t, e => nomatch e
  | .ty _ :: xs, _, _, _, .cons r t, e => nomatch e
  | .fn _ :: xs, _, _, _, .cons r t, e => nomatch e
  | .tup _ :: xs, _, _, _, .cons r t, e => nomatch e
  | .lst _ _ :: xs, _, _, _, .cons r t, e => nomatch e
  | .zls _ :: xs, _, _, _, .cons r t, e => nomatch e
  | .dic _ _ :: xs, _, _, _, .cons r t, e => nomatch e
  | .ins _ _ _ :: xs, _, _, _, .cons r t, e => nomatch e
theorem cr_len (hK : X.K = K) : CallR X (.builtin "len") (rCall K mg plen) := by
  subst hK
  intro pins s σ H xs us Q I rx ⟨B, vs, r, ps, g, k⟩
  unfold plen at g
  split at g
  · cases g
    obtain ⟨z, rfl, W, rv⟩ := pr1 ps
    cases rv with
    | tup h rs => exact call_len_seq pins s σ H _ us Q I rx ⟨_, _, rfl, .inr h, k.pure (by rw [rs.length]; exact .int _)⟩
  · cases g
    obtain ⟨z, rfl, W, rv⟩ := pr1 ps
    obtain ⟨a, ys, W, rfl, ha, rs, _⟩ := rv.lsts
    exact call_len_seq pins s σ H _ us Q I rx ⟨_, _, rfl, .inl (.of ha), k.pure (by rw [rs.length]; exact .int _)⟩
  · cases g
    obtain ⟨z, rfl, W, rv⟩ := pr1 ps
    cases rv with
    | zls h rs => exact call_len_seq pins s σ H _ us Q I rx ⟨_, _, rfl, .inl h.sq, k.pure (by rw [rs.length]; exact .int _)⟩
  · obtain ⟨c, g⟩ := guard_some g
    cases g
    obtain ⟨z, rfl, W, rv⟩ := pr1 ps
    cases rv
    exact call_len_str pins s σ H _ us Q I rx ⟨_, rfl, sz_le c, k.pure (.int _)⟩
  · cases g
    obtain ⟨z, rfl, W, rv⟩ := pr1 ps
    cases rv with
    | dicO h _ e rs =>
      have l : _ = _ := congrArg List.length e
      simp only [List.length_map] at l
      exact call_lenD pins s σ H _ us Q I rx ⟨_, _, rfl, h, k.pure (by rw [l]; exact .int _)⟩
  · cases g
theorem cr_sumP (hK : X.K = K) (hc : X.calm = true) : CallR X (.builtin "sum") (rCall K mg psum) := by
  subst hK
  intro pins s σ H xs us Q I rx ⟨B, vs, r, ps, g, k⟩
  unfold psum at g
  split at g
  · obtain ⟨ns, e1, g⟩ := bind_some g
    cases g
    obtain ⟨z, rfl, W, rv⟩ := pr1 ps
    obtain ⟨a, ys, W, rfl, ha, rs, _⟩ := rv.lsts
    obtain rfl := ints_ok rs e1
    exact cr_sum hc pins s σ H _ us Q I rx ⟨_, ns, rfl, .of ha, k.pure (.int _)⟩
  · obtain ⟨ns, e1, g⟩ := bind_some g
    cases g
    obtain ⟨z, rfl, W, rv⟩ := pr1 ps
    cases rv with
    | tup h rs =>
      obtain rfl := ints_ok rs e1
      obtain ⟨its, rr, ht, hz⟩ := I.tuple h
      obtain ⟨u, rfl, ru⟩ := vals1 rx
      cases ru
      have hi := intsAre_of rr
      obtain ⟨xs, hx⟩ := hi.allInts.items
      have hn : numsOf its.toArray.toList = ns := by rw [show its.toArray.toList = its from rfl, hi.numsOf]
      have hl : s.heap.IsTuple _ its.toArray := ht
      rw [hx] at hl hn
      rw [nums_intItems] at hn
      refine PySem.W.ktm_sumG (I.ok.hd hc) hl fun h' tk t' hk => ⟨.int ns.sum, H, I.kept hk, ⟨t', ?_⟩, k.pure (.int _)⟩
      rw [preSum_eq, List.take_of_length_le (by simp), hn]
  · cases g
theorem foldl_max_spec : ∀ (ns : List Int) (n : Int), (ns.foldl max n = n ∨ ns.foldl max n ∈ ns) ∧ n ≤ ns.foldl max n ∧ ∀ y ∈ ns, y ≤ ns.foldl max n
  | [], n => ⟨.inl rfl, Int.le_refl _, fun _ h => nomatch h⟩
  | m :: ns, n => by
    obtain ⟨h1, h2, h3⟩ := foldl_max_spec ns (max n m)
    refine ⟨?_, ?_, fun y hy => ?_⟩
    · rw [List.foldl_cons]
      rcases h1 with h1 | h1
      · rw [h1]
        rcases Int.le_total n m with h | h
        · right; rw [Int.max_eq_right h]; exact List.mem_cons_self
        · left; rw [Int.max_eq_left h]
      · right; exact List.mem_cons_of_mem _ h1
    · rw [List.foldl_cons]
      omega
    · rw [List.foldl_cons]
      rcases List.mem_cons.mp hy with rfl | hy
      · omega
      · exact h3 y hy
theorem foldl_min_spec : ∀ (ns : List Int) (n : Int), (ns.foldl min n = n ∨ ns.foldl min n ∈ ns) ∧ ns.foldl min n ≤ n ∧ ∀ y ∈ ns, ns.foldl min n ≤ y
  | [], n => ⟨.inl rfl, Int.le_refl _, fun _ h => nomatch h⟩
  | m :: ns, n => by
    obtain ⟨h1, h2, h3⟩ := foldl_min_spec ns (min n m)
    refine ⟨?_, ?_, fun y hy => ?_⟩
    · rw [List.foldl_cons]
      rcases h1 with h1 | h1
      · rw [h1]
        rcases Int.le_total n m with h | h
        · left; rw [Int.min_eq_left h]
        · right; rw [Int.min_eq_right h]; exact List.mem_cons_self
      · right; exact List.mem_cons_of_mem _ h1
    · rw [List.foldl_cons]
      omega
    · rw [List.foldl_cons]
      rcases List.mem_cons.mp hy with rfl | hy
      · omega
      · exact h3 y hy
theorem maxI_spec {ns : List Int} (h : ns ≠ []) : maxI ns ∈ ns ∧ ∀ y ∈ ns, y ≤ maxI ns := by
  cases ns with
  | nil => exact absurd rfl h
  | cons n ns =>
    obtain ⟨h1, h2, h3⟩ := foldl_max_spec ns n
    refine ⟨?_, fun y hy => ?_⟩
    · show ns.foldl max n ∈ n :: ns
      rcases h1 with h1 | h1
      · rw [h1]; exact List.mem_cons_self
      · exact List.mem_cons_of_mem _ h1
    · rcases List.mem_cons.mp hy with rfl | hy
      · exact h2
      · exact h3 y hy
theorem minI_spec {ns : List Int} (h : ns ≠ []) : minI ns ∈ ns ∧ ∀ y ∈ ns, minI ns ≤ y := by
  cases ns with
  | nil => exact absurd rfl h
  | cons n ns =>
    obtain ⟨h1, h2, h3⟩ := foldl_min_spec ns n
    refine ⟨?_, fun y hy => ?_⟩
    · show ns.foldl min n ∈ n :: ns
      rcases h1 with h1 | h1
      · rw [h1]; exact List.mem_cons_self
      · exact List.mem_cons_of_mem _ h1
    · rcases List.mem_cons.mp hy with rfl | hy
      · exact h2
      · exact h3 y hy
theorem cr_maxP (hK : X.K = K) (hc : X.calm = true) : CallR X (.builtin "max") (rCall K mg pmax) := by
  subst hK
  intro pins s σ H xs us Q I rx ⟨B, vs, r, ps, g, k⟩
  unfold pmax at g
  split at g
  · obtain ⟨ns, e1, g⟩ := bind_some g
    obtain ⟨c, g⟩ := guard_some g
    cases g
    obtain ⟨z, rfl, W, rv⟩ := pr1 ps
    obtain ⟨a, ys, W, rfl, ha, rs, _⟩ := rv.lsts
    obtain rfl := ints_ok rs e1
    obtain ⟨s1, s2⟩ := maxI_spec c
    refine cr_max hc pins s σ H _ us Q I rx ⟨_, ns, rfl, .of ha, List.length_pos_iff.mpr c, fun m h1 h2 => ?_⟩
    have : m = maxI ns := Int.le_antisymm (s2 m h1) (h2 _ s1)
    rw [this]
    exact k.pure (.int _)
  · cases g
    obtain ⟨z, z', rfl, ⟨W, rv⟩, ⟨W', rv'⟩⟩ := pr2 ps
    cases rv
    cases rv'
    exact call_max2 hc pins s σ H _ us Q I rx ⟨_, _, rfl, k.pure (.int _)⟩
  · cases g
theorem cr_minP (hK : X.K = K) (hc : X.calm = true) : CallR X (.builtin "min") (rCall K mg pmin) := by
  subst hK
  intro pins s σ H xs us Q I rx ⟨B, vs, r, ps, g, k⟩
  unfold pmin at g
  split at g
  · obtain ⟨ns, e1, g⟩ := bind_some g
    obtain ⟨c, g⟩ := guard_some g
    cases g
    obtain ⟨z, rfl, W, rv⟩ := pr1 ps
    obtain ⟨a, ys, W, rfl, ha, rs, _⟩ := rv.lsts
    obtain rfl := ints_ok rs e1
    obtain ⟨s1, s2⟩ := minI_spec c
    refine cr_min hc pins s σ H _ us Q I rx ⟨_, ns, rfl, .of ha, List.length_pos_iff.mpr c, fun m h1 h2 => ?_⟩
    have : m = minI ns := Int.le_antisymm (h2 _ s1) (s2 m h1)
    rw [this]
    exact k.pure (.int _)
  · cases g
    obtain ⟨z, z', rfl, ⟨W, rv⟩, ⟨W', rv'⟩⟩ := pr2 ps
    cases rv
    cases rv'
    exact call_min2 hc pins s σ H _ us Q I rx ⟨_, _, rfl, k.pure (.int _)⟩
  · cases g
theorem cr_abs : CallR X (.builtin "abs") (rCall K mg pabs) := by
  intro pins s σ H xs us Q I rx ⟨B, vs, r, ps, g, k⟩
  unfold pabs at g
  split at g
  · cases g
    obtain ⟨z, rfl, W, rv⟩ := pr1 ps
    cases rv
    exact call_abs pins s σ H _ us Q I rx ⟨_, rfl, k.pure (.int _)⟩
  · cases g
theorem cr_int : CallR X (.type "int") (rCall K mg pint) := by
  intro pins s σ H xs us Q I rx ⟨B, vs, r, ps, g, k⟩
  unfold pint at g
  split at g
  · cases g
    obtain ⟨z, rfl, W, rv⟩ := pr1 ps
    cases rv
    exact call_int1 pins s σ H _ us Q I rx (.inl ⟨_, rfl, k.pure (.int _)⟩)
  · cases g
    obtain ⟨z, rfl, W, rv⟩ := pr1 ps
    cases rv
    exact call_int1 pins s σ H _ us Q I rx (.inr ⟨_, rfl, k.pure (.int _)⟩)
  · cases g
theorem cr_list (hK : X.K = K) : CallR X (.type "list") (rCall K mg plist) := by
  subst hK
  intro pins s σ H xs us Q I rx ⟨B, vs, r, ps, g, k⟩
  unfold plist at g
  split at g
  · obtain ⟨c, g⟩ := guard_some g
    cases g
    obtain ⟨z, rfl, W, rv⟩ := pr1 ps
    cases rv with
    | tup h rs => exact call_list_of pins s σ H _ us Q I rx ⟨_, _, rfl, .inr h, fun l hl => k.list (rs.pures0 c) hl⟩
  · obtain ⟨c, g⟩ := guard_some g
    cases g
    obtain ⟨z, rfl, W, rv⟩ := pr1 ps
    obtain ⟨a, ys, rfl, ha, rs⟩ := rv.lst c
    exact call_list_of pins s σ H _ us Q I rx ⟨_, _, rfl, .inl (.of ha), fun l hl => k.list rs hl⟩
  · obtain ⟨c, g⟩ := guard_some g
    cases g
    obtain ⟨z, rfl, W, rv⟩ := pr1 ps
    cases rv with
    | zls h rs => exact call_list_of pins s σ H _ us Q I rx ⟨_, _, rfl, .inl h.sq, fun l hl => k.list rs hl⟩
  · cases g
theorem cr_tuple (hK : X.K = K) : CallR X (.type "tuple") (rCall K mg ptuple) := by
  subst hK
  intro pins s σ H xs us Q I rx ⟨B, vs, r, ps, g, k⟩
  unfold ptuple at g
  split at g
  · obtain ⟨c, g⟩ := guard_some g
    cases g
    obtain ⟨z, rfl, W, rv⟩ := pr1 ps
    cases rv with
    | tup h rs => exact call_tuple_of pins s σ H _ us Q I rx ⟨_, _, rfl, .inr ⟨h, k.pure (.tup h (rs.pures0 c))⟩⟩
  · obtain ⟨c, g⟩ := guard_some g
    cases g
    obtain ⟨z, rfl, W, rv⟩ := pr1 ps
    obtain ⟨a, ys, rfl, ha, rs⟩ := rv.lst c
    exact call_tuple_of pins s σ H _ us Q I rx ⟨_, _, rfl, .inl ⟨.of ha, fun l hl => k.tup rs hl⟩⟩
  · cases g
theorem cr_allP (hK : X.K = K) (hc : X.calm = true) : CallR X (.builtin "all") (rCall K mg pall) := by
  subst hK
  intro pins s σ H xs us Q I rx ⟨B, vs, r, ps, g, k⟩
  unfold pall at g
  split at g
  · obtain ⟨bs, e1, g⟩ := bind_some g
    cases g
    obtain ⟨z, rfl, W, rv⟩ := pr1 ps
    obtain ⟨a, ys, W, rfl, ha, rs, _⟩ := rv.lsts
    obtain rfl := bls_ok rs e1
    exact cr_all hc pins s σ H _ us Q I rx ⟨_, bs, rfl, .of ha, k.pure (.bl _)⟩
  · cases g
theorem cr_anyP (hK : X.K = K) (hc : X.calm = true) : CallR X (.builtin "any") (rCall K mg pany) := by
  subst hK
  intro pins s σ H xs us Q I rx ⟨B, vs, r, ps, g, k⟩
  unfold pany at g
  split at g
  · obtain ⟨bs, e1, g⟩ := bind_some g
    cases g
    obtain ⟨z, rfl, W, rv⟩ := pr1 ps
    obtain ⟨a, ys, W, rfl, ha, rs, _⟩ := rv.lsts
    obtain rfl := bls_ok rs e1
    exact cr_any hc pins s σ H _ us Q I rx ⟨_, bs, rfl, .of ha, k.pure (.bl _)⟩
  · cases g
theorem tab_some {T : String} {yes : List String} {b : Bool} (h : tab T yes = some b) (hy : ∀ t ∈ yes, t ∈ ["int", "str", "tuple", "list", "dict", "bool"]) : T ∈ ["int", "str", "tuple", "list", "dict", "bool"] ∧ b = decide (T ∈ yes) := by
  unfold tab at h
  split at h
  · rename_i h1
    cases h
    exact ⟨hy T h1, by simp [h1]⟩
  · rename_i h1
    split at h
    · rename_i h2
      cases h
      exact ⟨h2, by simp [h1]⟩
    · cases h
def tyOfP : PV → Option String
  | .non => some "NoneType"
  | .bl _ => some "bool"
  | .int _ => some "int"
  | .str _ => some "str"
  | .tup _ => some "tuple"
  | .lst _ _ => some "list"
  | .dic _ _ => some "dict"
  | _ => none
theorem ty_ok {T : String} (rv : RV K mg H B v x W) (h : tyOfP v = some T) : TyX K H x (.type T) := by
  cases rv with
  | non => cases h; exact .base .non
  | bl b => cases h; exact .base (.bl b)
  | int b => cases h; exact .base (.int b)
  | str b => cases h; exact .base (.str b)
  | tup hs r =>
    cases h
    rcases hs with (hs | ⟨o, hs⟩) | ⟨o, its, n, hk, hc, _⟩
    · exact .base (.tup hs)
    · exact .fTuple hs
    · exact .kTuple hk hc
  | lstF hs _ r => cases h; exact .base (.lst hs)
  | lstO hs _ r => cases h; exact .base (.lst hs)
  | dicF hs _ _ r =>
    cases h
    rcases hs with hs | ⟨o, hs⟩
    · exact .base (.dK hs)
    · exact .fDict hs
  | dicO hs _ _ r => cases h; exact .base (.dK hs)
  | _ => cases h
theorem isi_kit {T : String} {b : Bool} (h : isi v T = some b) : ∃ A, tyOfP v = some A ∧ kitB A T = some b := by
  unfold isi at h
  split at h <;> first
    | (cases h; done)
    | (obtain ⟨m, rfl⟩ := tab_some h (by decide)
       refine ⟨_, rfl, ?_⟩
       simp only [List.mem_cons, List.not_mem_nil, or_false] at m
       rcases m with rfl | rfl | rfl | rfl | rfl | rfl <;> decide +kernel)
theorem cr_isi (hK : X.K = K) : CallR X (.builtin "isinstance") (rCall K mg pisi) := by
  subst hK
  intro pins s σ H xs us Q I rx ⟨B, vs, r, ps, g, k⟩
  unfold pisi at g
  split at g
  · obtain ⟨b, e, rfl⟩ := Option.map_eq_some_iff.mp g
    obtain ⟨z, z', rfl, ⟨W, rv⟩, ⟨W', rv'⟩⟩ := pr2 ps
    cases rv'
    obtain ⟨A, e1, e2⟩ := isi_kit e
    exact call_isi pins s σ H _ us Q I rx ⟨_, _, _, _, b, rfl, .ty _, ty_ok rv e1, kit_ty e2, k.pure (.bl _)⟩
  · cases g

/-! ### sorted -/
theorem alike_of {ds : List PyData} (h : (ds.all fun d => ds.all fun e => PySem.W.alike d e) = true) : PySem.W.AllAlike ds := fun d hd e he => by
  have := List.all_eq_true.mp h d hd
  exact List.all_eq_true.mp this e he
theorem sortable_of {ds : List PyData} (h : ((ds.all fun d => match d with | .tuple (_ :: _) => true | _ => false) || ds.all fun d => match d with | .none => false | .tuple _ => false | _ => true) = true) : PySem.W.Sortable ds := by
  rcases Bool.or_eq_true_iff.mp h with h | h
  · refine .inl fun d hd => ?_
    have := List.all_eq_true.mp h d hd
    cases d with
    | tuple xs =>
      cases xs with
      | nil => cases this
      | cons x r => exact ⟨x, r, rfl⟩
    | _ => cases this
  · refine .inr fun d hd => ?_
    have := List.all_eq_true.mp h d hd
    cases d with
    | none => cases this
    | tuple xs => cases this
    | _ => exact ⟨fun z => (nomatch z), fun _ z => nomatch z⟩
/-- an item with its place in the heap and its data -/
theorem each_of {s : Shared} {pins : List (Addr × Obj)} {σ : Sg} (I : Inv X pins σ H s) : ∀ {xs : List PV} {ys : List V} {us : List Value} {ds : List PyData} {W : List Addr}, RVs X.K mg H B xs ys W → Vals ys us → toDs xs = some ds →
    PySem.W.EachIs (fun (u : Value) (b : PV × PyData × V) => RelV b.2.2 u) us (xs.zip (ds.zip ys)) ∧ PySem.W.EachIs (fun (u : Value) (b : PV × PyData × V) => ∃ as, Reads s.heap u b.2.1 as) us (xs.zip (ds.zip ys)) ∧ ds.length = xs.length
  | _, _, _, _, _, .nil, .nil, e => by cases e; exact ⟨.nil, .nil, rfl⟩
  | _, _, _, _, _, .cons r t, .cons p ps, e => by
    simp only [toDs] at e
    obtain ⟨d, e1, e⟩ := bind_some e
    obtain ⟨ds, e2, e⟩ := bind_some e
    cases e
    obtain ⟨a1, a2, a3⟩ := each_of I t ps e2
    exact ⟨.cons p a1, .cons (Dp.reads I d _ _ (r.dp e1) p) a2, by simp [a3]⟩
theorem each_vals : ∀ {us : List Value} {bs : List (PV × PyData × V)}, PySem.W.EachIs (fun (u : Value) (b : PV × PyData × V) => RelV b.2.2 u) us bs → Vals (bs.map (·.2.2)) us
  | _, _, .nil => .nil
  | _, _, .cons p t => .cons p (each_vals t)
theorem rvs_each {ds : List PyData} (r : RVs K mg H B xs ys []) : ∀ b ∈ xs.zip (ds.zip ys), RV K mg H B b.1 b.2.2 [] := fun b hb => by
  obtain ⟨i, hi⟩ := List.mem_iff_getElem?.mp hb
  rw [List.getElem?_zip_eq_some] at hi
  obtain ⟨h1, h2⟩ := hi
  rw [List.getElem?_zip_eq_some] at h2
  exact r.pureAt h1 h2.2
theorem rvs_map {β : Type} {f : β → PV} {g : β → V} : ∀ {bs : List β}, (∀ b ∈ bs, RV K mg H B (f b) (g b) []) → RVs K mg H B (bs.map f) (bs.map g) []
  | [], _ => .nil
  | b :: bs, h => .cons (F := []) (G := []) (h b List.mem_cons_self) (rvs_map fun c hc => h c (List.mem_cons_of_mem _ hc))
theorem zip3_map : ∀ {xs : List PV} {ds : List PyData} {ys : List V}, ds.length = xs.length → ds.length = ys.length → (xs.zip (ds.zip ys)).map (fun b => (b.1, b.2.1)) = xs.zip ds
  | [], [], [], _, _ => rfl
  | x :: xs, d :: ds, y :: ys, h1, h2 => by
    simp only [List.zip_cons_cons, List.map_cons]
    rw [zip3_map (by simpa using h1) (by simpa using h2)]
  | [], _ :: _, _, h1, _ => by simp at h1
  | _ :: _, [], _, h1, _ => by simp at h1
  | _, [], _ :: _, _, h2 => by simp at h2
  | _, _ :: _, [], _, h2 => by simp at h2
theorem zip3_sort {xs : List PV} {ds : List PyData} {ys : List V} (h1 : ds.length = xs.length) (h2 : ds.length = ys.length) :
    ((xs.zip (ds.zip ys)).mergeSort (PySem.W.dataLe false fun b => b.2.1)).map (·.1) = sortD xs ds := by
  unfold sortD
  have e := PySem.W.sort_maps (r := PySem.W.dataLe false fun (b : PV × PyData × V) => b.2.1) (s := PySem.W.dataLe false (Prod.snd (α := PV))) (fun b => (b.1, b.2.1)) (l := xs.zip (ds.zip ys)) (fun _ _ _ _ => rfl)
  rw [zip3_map h1 h2] at e
  rw [← e, List.map_map]
  rfl
theorem cr_sortL (hK : X.K = K) (hu : X.A.units + 66 < cLine) {pins : List (Addr × Obj)} {s : Shared} {σ : Sg} {us : List Value} {a : Addr} (I : Inv X pins σ H s) (rx : Vals [.ref a] us) (ha : SqL K H a ys) (rs : RVs K mg H B xs ys W) (g : psortL xs = some r) (k : New K mg H B r Q) :
    wpAny (model X.prog X.w) X.A (call (.builtin "sorted") us) (EP X pins σ Q) X.xe s := by
  subst hK
  obtain ⟨ds, e1, g⟩ := bind_some g
  obtain ⟨⟨c1, c2, c3⟩, g⟩ := guard_some g
  cases g
  have rs := rs.pures0 c2
  obtain ⟨its, rv, hl, hz⟩ := I.list ha
  obtain ⟨u, rfl, ru⟩ := vals1 rx
  cases ru
  obtain ⟨q1, q2, q3⟩ := each_of I rs rv e1
  have hly := rs.length
  have e2 : (xs.zip (ds.zip ys)).map (fun b => b.2.1) = ds := by
    have : (xs.zip (ds.zip ys)).map (fun b => b.2.1) = ((xs.zip (ds.zip ys)).map (fun b => (b.1, b.2.1))).map Prod.snd := by rw [List.map_map]; rfl
    rw [this, zip3_map q3 (by omega), List.map_snd_zip (by omega)]
  have hlen : (xs.zip (ds.zip ys)).length = xs.length := by
    rw [List.length_zip, List.length_zip]
    omega
  unfold sortOk at c1
  simp only [Bool.and_eq_true] at c1
  obtain ⟨⟨c11, c12⟩, c13⟩ := c1
  refine PySem.W.sorted_data (enc := fun b : PV × PyData × V => b.2.1) hl.isList q1 q2 (by rw [e2]; exact alike_of c11) (by rw [e2]; exact sortable_of c12) (by rw [hlen]; exact sz_le c3) (fun b hb => ?_) fun out h1 h2 => ?_
  · have hm : b.2.1 ∈ ds := by rw [← e2]; exact List.mem_map.mpr ⟨b, hb, rfl⟩
    have := of_decide_eq_true (List.all_eq_true.mp c13 _ hm)
    omega
  · obtain ⟨ep, he'⟩ := PyProof.Rows.sortedAll_at s.heap its out.toArray
    have hv := each_vals h2
    have mem : ∀ b ∈ (xs.zip (ds.zip ys)).mergeSort (PySem.W.dataLe false fun b => b.2.1), RV X.K mg H B b.1 b.2.2 [] := fun b hb => rvs_each rs b ((List.mergeSort_perm _ _).mem_iff.mp hb)
    have rm := rvs_map mem
    rw [zip3_sort q3 (by omega)] at rm
    refine ⟨.ref _, upd H (s.heap.objs.size + 1) (.lst (((xs.zip (ds.zip ys)).mergeSort (PySem.W.dataLe false fun b => b.2.1)).map (·.2.2))), I.laid (t' := s.toks) (fun _ _ => PyProof.Rows.sortedAll_old) (Nat.le_succ _) ⟨?_, out, ep, hv, he'⟩, rfl, k.list rm (I.hok.fresh (Nat.le_succ _))⟩
    rw [List.length_map, List.length_mergeSort, hlen]
    exact sz_le c3
theorem cr_sortedP (hK : X.K = K) (hu : X.A.units + 66 < cLine) : CallR X (.builtin "sorted") (rCall K mg psorted) := by
  subst hK
  intro pins s σ H xs us Q I rx ⟨B, vs, r, ps, g, k⟩
  unfold psorted at g
  split at g
  · obtain ⟨z, rfl, W, rv⟩ := pr1 ps
    obtain ⟨a, ys, W, rfl, ha, rs, _⟩ := rv.lsts
    exact cr_sortL rfl hu I rx (.of ha) rs g k
  · cases g
end
end GX

/-! GX: statements. -/
namespace GX
open PySem PySem.Spec PyProof.Rows L2

inductive Out where
  | nx (ρ : Rho)
  | rt (v : PV) (ρ : Rho)
  | bk (ρ : Rho)
  | ct (ρ : Rho)
abbrev S := Rho → Option Out
abbrev Tg := PV → Rho → Option Rho

section
variable (K : PySem.W.Frag) (mg : Str → Option Value) (P : List V)
/-- behind a statement -/
structure PoS (H : Hp) (B : Addr → Prop) (F : List Addr) (ρ' : Rho) (σ' : Sg) (H' : Hp) (B' : Addr → Prop) (F' : List Addr) : Prop where
  sl : RSs K mg H' B' ρ' σ' P F'
  nd : F'.Nodup
  st : Step H B F H' B' F'
structure PoR (H : Hp) (B : Addr → Prop) (F : List Addr) (v : PV) (ρ' : Rho) (x : V) (σ' : Sg) (H' : Hp) (B' : Addr → Prop) (G F' : List Addr) : Prop where
  rv : RV K mg H' B' v x G
  sl : RSs K mg H' B' ρ' σ' P F'
  nd : (G ++ F').Nodup
  st : Step H B F H' B' (G ++ F')
def OutOk (D : Ends) (H : Hp) (B : Addr → Prop) (F : List Addr) : Out → Prop
  | .nx ρ' => ∀ σ' H' B' F', PoS K mg P H B F ρ' σ' H' B' F' → D.nx σ' H'
  | .bk ρ' => ∀ σ' H' B' F', PoS K mg P H B F ρ' σ' H' B' F' → D.bk σ' H'
  | .ct ρ' => ∀ σ' H' B' F', PoS K mg P H B F ρ' σ' H' B' F' → D.ct σ' H'
  | .rt v ρ' => ∀ x σ' H' B' G F', PoR K mg P H B F v ρ' x σ' H' B' G F' → D.rt x H'
def tS (f : S) : TS := fun D σ H => ∃ ρ B F o, Rel K mg H B P ρ σ F ∧ f ρ = some o ∧ OutOk K mg P D H B F o
def tG (T : Sg → Sg → Prop) (f : Tg) : TG := fun x σ H Q => ∃ ρ B F v G ρ', RV K mg H B v x G ∧ RSs K mg H B ρ σ P F ∧ (G ++ F).Nodup ∧ f v ρ = some ρ' ∧ ∀ σ' H' B' F', PoS K mg P H B (G ++ F) ρ' σ' H' B' F' → T σ σ' → Q σ' H'
/-- how a target may change the names' values -/
structure TrR (T : Sg → Sg → Prop) : Prop where
  refl : ∀ a, T a a
  trans : ∀ a b c, T a b → T b c → T a c
abbrev TT1 : Sg → Sg → Prop := fun _ _ => True
abbrev TW (vs : List Nat) : Sg → Sg → Prop := fun a b => wipe b vs = wipe a vs
theorem tr_true : TrR TT1 := ⟨fun _ => trivial, fun _ _ _ _ _ => trivial⟩
theorem tr_wipe {vs : List Nat} : TrR (TW vs) := ⟨fun _ => rfl, fun _ _ _ h1 h2 => h2.trans h1⟩
end
section
variable {q : Bool} {K : PySem.W.Frag} {mg : Str → Option Value} {P : List V} {H H' H1 H2 : Hp} {B B' B1 B2 : Addr → Prop} {x y : V} {v w r c : PV} {xs : List PV} {ys : List V} {F F' F1 F2 G G1 G2 W : List Addr} {ρ ρ' ρ1 ρ2 : Rho} {σ σ' σ1 σ2 : Sg} {X : Cx} {a b e : Expr} {pos p2 : Pos} {D : Ends} {o : Out}

theorem PoS.rel (p : PoS K mg P H B F ρ' σ' H' B' F') : Rel K mg H' B' P ρ' σ' F' := ⟨p.sl, p.nd⟩
theorem PoS.trans (p : PoS K mg P H B F ρ1 σ1 H1 B1 F1) (p2 : PoS K mg P H1 B1 F1 ρ2 σ2 H2 B2 F2) : PoS K mg P H B F ρ2 σ2 H2 B2 F2 := ⟨p2.sl, p2.nd, p.st.trans p2.st⟩
theorem PoS.toR (p : PoS K mg P H B F ρ1 σ1 H1 B1 F1) (p2 : PoR K mg P H1 B1 F1 v ρ2 x σ2 H2 B2 G F2) : PoR K mg P H B F v ρ2 x σ2 H2 B2 G F2 := ⟨p2.rv, p2.sl, p2.nd, p.st.trans p2.st⟩
theorem PoT.toS (p : PoT q K mg P σ ρ H B F ρ1 H1 B1 F1) : PoS K mg P H B F ρ1 σ H1 B1 F1 := ⟨p.sl, p.nd, p.st⟩
theorem OutOk.trans {o : Out} (p : PoS K mg P H B F ρ1 σ1 H1 B1 F1) (h : OutOk K mg P D H B F o) : OutOk K mg P D H1 B1 F1 o := by
  cases o with
  | nx ρ' => exact fun σ' H' B' F' p2 => h σ' H' B' F' (p.trans p2)
  | bk ρ' => exact fun σ' H' B' F' p2 => h σ' H' B' F' (p.trans p2)
  | ct ρ' => exact fun σ' H' B' F' p2 => h σ' H' B' F' (p.trans p2)
  | rt v ρ' => exact fun x σ' H' B' G F' p2 => h x σ' H' B' G F' (p.toR p2)

/-! ### blocks -/
def sSkip : S := fun ρ => some (.nx ρ)
def sSeq (f g : S) : S := fun ρ => (f ρ).bind fun o => match o with | .nx ρ1 => g ρ1 | o => some o
def sBrk : S := fun ρ => some (.bk ρ)
def sCnt : S := fun ρ => some (.ct ρ)
def sNever : S := fun _ => none
theorem same_s (R : Rel K mg H B P ρ σ F) : PoS K mg P H B F ρ σ H B F := ⟨R.slots, R.nd, Step.refl⟩
theorem gs_nil : PSs X [] (tS K mg P sSkip) := PSs.weak pss_nil fun D σ H ⟨ρ, B, F, o, R, e, k⟩ => by
  cases e
  exact k σ H B F (same_s R)
theorem gs_cons {s : Stmt} {ss : List Stmt} {f g : S} (h : PS X s (tS K mg P f)) (hr : PSs X ss (tS K mg P g)) : PSs X (s :: ss) (tS K mg P (sSeq f g)) := PSs.weak (pss_cons h hr) fun D σ H ⟨ρ, B, F, o, R, e, k⟩ => by
  obtain ⟨o1, z1, e⟩ := bind_some e
  refine ⟨ρ, B, F, o1, R, z1, ?_⟩
  cases o1 with
  | nx ρ1 => exact fun σ1 H1 B1 F1 p => ⟨ρ1, B1, F1, o, p.rel, e, k.trans p⟩
  | bk ρ1 => cases e; exact k
  | ct ρ1 => cases e; exact k
  | rt v ρ1 => cases e; exact k
theorem gs_one {s : Stmt} {f : S} (h : PS X s (tS K mg P f)) : PSs X [s] (tS K mg P f) := pss_one h
theorem gs_never {ss : List Stmt} : PSs X ss (tS K mg P sNever) := PSs.weak pss_never fun D σ H ⟨ρ, B, F, o, R, e, k⟩ => nomatch e
theorem g_never {s : Stmt} : PS X s (tS K mg P sNever) := PS.weak ps_never fun D σ H ⟨ρ, B, F, o, R, e, k⟩ => nomatch e
theorem g_pass : PS X (.Pass pos) (tS K mg P sSkip) := PS.weak ps_pass fun D σ H ⟨ρ, B, F, o, R, e, k⟩ => by
  cases e
  exact k σ H B F (same_s R)
theorem g_break : PS X (.Break pos) (tS K mg P sBrk) := PS.weak ps_break fun D σ H ⟨ρ, B, F, o, R, e, k⟩ => by
  cases e
  exact k σ H B F (same_s R)
theorem g_continue : PS X (.Continue pos) (tS K mg P sCnt) := PS.weak ps_continue fun D σ H ⟨ρ, B, F, o, R, e, k⟩ => by
  cases e
  exact k σ H B F (same_s R)
def sExpr (f : M PV) : S := fun ρ => (f ρ).bind fun z => some (.nx z.2)
theorem g_expr {f : M PV} (h : PE X e (tE false K mg P f)) (hs : swapsWith e none pos.line X.env = pure false := by rfl) : PS X (.Expr e pos) (tS K mg P (sExpr f)) := PS.weak (ps_expr h hs) fun D σ H ⟨ρ, B, F, o, R, e, k⟩ => by
  obtain ⟨⟨v, ρ1⟩, z1, e⟩ := bind_some e
  cases e
  exact ⟨ρ, B, F, v, ρ1, R, z1, fun x H1 B1 G1 F1 p => k _ _ _ _ p.drop.toS⟩
def sRet (f : M PV) : S := fun ρ => (f ρ).bind fun z => some (.rt z.1 z.2)
theorem g_ret {f : M PV} (h : PE X e (tE false K mg P f)) : PS X (.Return (some e) pos) (tS K mg P (sRet f)) := PS.weak (ps_ret h) fun D σ H ⟨ρ, B, F, o, R, e, k⟩ => by
  obtain ⟨⟨v, ρ1⟩, z1, e⟩ := bind_some e
  cases e
  exact ⟨ρ, B, F, v, ρ1, R, z1, fun x H1 B1 G1 F1 p => k _ σ _ _ _ _ ⟨p.rv, p.sl, p.nd, p.st⟩⟩
def sIf (t : M Bool) (f g : S) : S := fun ρ => (t ρ).bind fun z => if z.1 = true then f z.2 else g z.2
theorem g_if {t : M Bool} {f g : S} {aa bb : List Stmt} (ht : PT X e (tT false K mg P t)) (ha : PSs X aa (tS K mg P f)) (hb : PSs X bb (tS K mg P g)) : PS X (.If e aa bb pos) (tS K mg P (sIf t f g)) := PS.weak (ps_if ht ha hb) fun D σ H ⟨ρ, B, F, o, R, e, k⟩ => by
  obtain ⟨⟨d, ρ1⟩, z1, e⟩ := bind_some e
  refine ⟨ρ, B, F, d, ρ1, R, z1, fun H1 B1 F1 p => ?_⟩
  cases d with
  | true =>
    rw [if_pos rfl] at e ⊢
    exact ⟨ρ1, B1, F1, o, p.rel, e, k.trans p.toS⟩
  | false =>
    rw [if_neg Bool.false_ne_true] at e ⊢
    exact ⟨ρ1, B1, F1, o, p.rel, e, k.trans p.toS⟩

/-! ### targets -/
def putS (i : Nat) (v : PV) (ρ : Rho) : Option Rho := (ρ[i]?).bind fun s => match s with | .ref _ => none | _ => some (ρ.set i (.val v))
def gNm (i : Nat) : Tg := fun v ρ => putS i v ρ
theorem put_ok {i : Nat} (rv : RV K mg H B v x G) (R : RSs K mg H B ρ σ P F) (nd : (G ++ F).Nodup) (e : putS i v ρ = some ρ') : ∃ F', PoS K mg P H B (G ++ F) ρ' (σ.set i (some x)) H B F' ∧ ∀ b ∈ F', b ∈ G ++ F := by
  obtain ⟨s, z1, e⟩ := bind_some e
  obtain ⟨y, p, F1, Gs, F2, h1, h2, h3, h4, h5⟩ := R.at z1
  obtain ⟨_, k2⟩ := h5 H B [] Keep.refl MutW.nil (fun _ _ h => nomatch h) (fun _ _ h => nomatch h)
  have sub : ∀ b ∈ F1 ++ G ++ F2, b ∈ G ++ F := fun b hb => by
    rw [h4]
    simp at hb ⊢
    rcases hb with h | h | h
    · exact .inr (.inl h)
    · exact .inl h
    · exact .inr (.inr (.inr h))
  have nd' : (F1 ++ G ++ F2).Nodup := by
    rw [h4] at nd
    obtain ⟨n1, n2, n3⟩ := List.nodup_append.mp nd
    obtain ⟨m1, m2, m3⟩ := List.nodup_append.mp n2
    obtain ⟨l1, l2, l3⟩ := List.nodup_append.mp m1
    refine List.nodup_append.mpr ⟨List.nodup_append.mpr ⟨l1, n1, fun a1 h1 a2 h2 e => n3 a2 h2 a1 (by simp [h1]) e.symm⟩, m2, fun a1 h1 a2 h2 => ?_⟩
    rcases List.mem_append.mp h1 with h1 | h1
    · exact m3 a1 (by simp [h1]) a2 h2
    · exact n3 a1 h1 a2 (by simp [h2])
  cases s with
  | ref u => cases e
  | un =>
    cases e
    exact ⟨_, ⟨k2 (.val v) (some x) G (.val rv), nd', ⟨fun b hb => .inl (sub b hb), Keep.refl⟩⟩, sub⟩
  | val u =>
    cases e
    exact ⟨_, ⟨k2 (.val v) (some x) G (.val rv), nd', ⟨fun b hb => .inl (sub b hb), Keep.refl⟩⟩, sub⟩
theorem gg_name {T : Sg → Sg → Prop} {i : Nat} {nm : Str} (hN : X.N.Nodup) (hi : X.N[i]? = some nm) (hx : Loc X.env.scope nm) (hT : ∀ σ x, T σ (σ.set i x) := by intros; trivial) (hf : X.fn nm = true ∨ X.env.scope.names.lookup nm = some .local := by first | exact .inl rfl | exact .inr rfl | assumption) : PG X (.Name nm pos) (tG K mg P T (gNm i)) :=
  PG.weak (pg_name hN hi hx hf) fun x σ H Q ⟨ρ, B, F, v, G, ρ', rv, R, nd, e, k⟩ => by
    obtain ⟨F', p, _⟩ := put_ok rv R nd e
    exact k _ _ _ _ p (hT _ _)
/-- several targets -/
def gsNil : List PV → Rho → Option Rho := fun vs ρ => match vs with | [] => some ρ | _ => none
def gsCons (g : Tg) (gs : List PV → Rho → Option Rho) : List PV → Rho → Option Rho := fun vs ρ => match vs with | v :: vs => (g v ρ).bind fun ρ1 => gs vs ρ1 | [] => none
section
variable (K mg P)
def tGs (T : Sg → Sg → Prop) (f : List PV → Rho → Option Rho) : TGs := fun xs σ H Q => ∃ ρ B F vs G ρ', RVs K mg H B vs xs G ∧ RSs K mg H B ρ σ P F ∧ (G ++ F).Nodup ∧ f vs ρ = some ρ' ∧ ∀ σ' H' B' F', PoS K mg P H B (G ++ F) ρ' σ' H' B' F' → T σ σ' → Q σ' H'
end
theorem PGs.weak {es : List Expr} {t t' : TGs} (h : PGs X es t) (w : ∀ v σ H Q, t' v σ H Q → t v σ H Q) : PGs X es t' := ⟨fun pins s σ H vs us Q I r q => h.run pins s σ H vs us Q I r (w vs σ H Q q)⟩
theorem ggs_nil {T : Sg → Sg → Prop} (tr : TrR T) : PGs X [] (tGs K mg P T gsNil) := PGs.weak pgs_nil fun xs σ H Q ⟨ρ, B, F, vs, G, ρ', rv, R, nd, e, k⟩ => by
  cases vs with
  | cons _ _ => cases e
  | nil =>
    cases e
    cases rv
    exact ⟨rfl, k _ _ _ _ ⟨R, nd, Step.refl⟩ (tr.refl _)⟩
theorem ggs_cons {T : Sg → Sg → Prop} {es : List Expr} {g : Tg} {gs : List PV → Rho → Option Rho} (tr : TrR T) (h : PG X e (tG K mg P T g)) (hr : PGs X es (tGs K mg P T gs)) (hs : (assignEach (e :: es) X.env).map (·.2) = assign e X.env :: (assignEach es X.env).map (·.2) := by rfl) : PGs X (e :: es) (tGs K mg P T (gsCons g gs)) :=
  PGs.weak (pgs_cons h hr hs) fun xs σ H Q ⟨ρ, B, F, vs, G, ρ', rv, R, nd, e, k⟩ => by
    cases vs with
    | nil => cases e
    | cons v vs =>
      obtain ⟨ρ1, z1, e⟩ := bind_some e
      cases rv with
      | @cons _ _ x xs G1 G2 rv rt =>
        refine ⟨x, xs, rfl, ρ, B, F, v, G1, ρ1, rv, R, ?_, z1, fun σ1 H1 B1 F1 p t1 => ?_⟩
        · rw [List.append_assoc] at nd
          obtain ⟨n1, n2, n3⟩ := List.nodup_append.mp nd
          exact List.nodup_append.mpr ⟨n1, nodup_r n2, fun a1 h1 a2 h2 => n3 a1 h1 a2 (by simp [h2])⟩
        · have nd2 : (G2 ++ (G1 ++ F)).Nodup := by
            rw [List.append_assoc] at nd
            obtain ⟨n1, n2, n3⟩ := List.nodup_append.mp nd
            obtain ⟨m1, m2, m3⟩ := List.nodup_append.mp n2
            refine List.nodup_append.mpr ⟨m1, List.nodup_append.mpr ⟨n1, m2, fun a1 h1 a2 h2 => n3 a1 h1 a2 (by simp [h2])⟩, fun a1 h1 a2 h2 e => ?_⟩
            subst e
            rcases List.mem_append.mp h2 with h2 | h2
            · exact n3 a1 h2 a1 (by simp [h1]) rfl
            · exact m3 a1 h1 a1 h2 rfl
          have mW : MutW (G1 ++ F) H B := fun b hb => (List.mem_append.mp hb).elim (rv.mut b) (R.mut b)
          have rt' := rt.keep p.st.keep mW fun b hb => nodup_ne nd2 b hb
          refine ⟨ρ1, B1, F1, vs, G2, ρ', rt', p.sl, nodup_beside nd2 rt.mut p.nd p.st, e, fun σ2 H2 B2 F2 p2 t2 => k σ2 H2 B2 F2 ⟨p2.sl, p2.nd, ?_⟩ (tr.trans _ _ _ t1 t2)⟩
          refine ((p.st.beside G2).trans p2.st).congrF fun b => ?_
          simp only [List.mem_append]
          exact ⟨fun h => h.elim (fun h => .inl (.inr h)) (fun h => h.elim (fun h => .inl (.inl h)) .inr), fun h => h.elim (fun h => h.elim (fun h => .inr (.inl h)) .inl) fun h => .inr (.inr h)⟩
end
end GX

/-! GX: assignments, changes of an object that a name holds. -/
namespace GX
open PySem PySem.Spec PyProof.Rows L2

def gTp (n : Nat) (gs : List PV → Rho → Option Rho) : Tg := fun v ρ => match v with
  | .tup vs => if vs.length = n then gs vs ρ else none
  | _ => none
def sAsg (g : Tg) (f : M PV) : S := fun ρ => (f ρ).bind fun z => (g z.1 z.2).bind fun ρ1 => some (.nx ρ1)
def sPar (i j : Nat) (a : M (List Opd)) : S := fun ρ => (a ρ).bind fun z => (tmVals z.1).bind fun vs => match vs with
  | [v, w] => (putS i v z.2).bind fun ρ1 => (putS j w ρ1).bind fun ρ2 => some (.nx ρ2)
  | _ => none
def sAug (i : Nat) (g : PV → PV → Option PV) (f : M PV) : S := fun ρ => ((ρ[i]?).bind Slot.get).bind fun v0 => if v0.pure then (f ρ).bind fun z => if z.1.pure then (g v0 z.1).bind fun r => (putS i r z.2).bind fun ρ2 => some (.nx ρ2) else none else none
/-- the object that a name holds is changed -/
def chg (i : Nat) (v : PV) (ρ : Rho) : Option Rho := (ρ[i]?).bind fun s => match s with | .val _ => some (ρ.set i (.val v)) | .ref _ => some (ρ.set i (.ref v)) | .un => none
def putP {α : Type} : List (Key × α) → Key → α → List (Key × α)
  | [], k, v => [(k, v)]
  | (k', v') :: r, k, v => if k' = k then (k', v) :: r else (k', v') :: putP r k v
def psetI : PV → PV → PV → Option PV
  | .lst true xs, .int k, v => (ixN xs.length k).map fun j => .lst true (xs.set j v)
  | .dic true kvs, k, v => (toKey k).bind fun kk => guard (kvs.length < 16777216) (some (.dic true (putP kvs kk v)))
  | _, _, _ => none
def gIx (n : Nat) (f : M PV) : Tg := fun v ρ => ((ρ[n]?).bind Slot.get).bind fun _ => (f ρ).bind fun z => if z.1.pure then ((z.2[n]?).bind Slot.get).bind fun ob => (psetI ob z.1 v).bind fun ob' => chg n ob' z.2 else none

section
variable {q : Bool} {K : PySem.W.Frag} {mg : Str → Option Value} {P : List V} {H H' H1 H2 : Hp} {B B' B1 B2 : Addr → Prop} {x y : V} {v w r c : PV} {xs : List PV} {ys : List V} {F F' F1 F2 G G1 G2 W : List Addr} {ρ ρ' ρ1 ρ2 : Rho} {σ σ' σ1 σ2 : Sg} {X : Cx} {a b e : Expr} {pos p2 : Pos} {D : Ends} {o : Out}
theorem gg_tup {es : List Expr} {k n : Nat} {gs : List PV → Rho → Option Rho} (hK : X.K = K) (hc : X.calm = true) {T : Sg → Sg → Prop} (h : PGs X es (tGs K mg P T gs)) (hn : (assignEach es X.env).length = n := by rfl) (hst : (assignEach es X.env).findIdx? (·.1) = none := by rfl) :
    PG X (.Tuple es k pos) (tG K mg P T (gTp n gs)) := by
  subst hK
  refine PG.weak (pg_tup hc h hn hst) fun x σ H Q ⟨ρ, B, F, v, G, ρ', rv, R, nd, e, k⟩ => ?_
  unfold gTp at e
  split at e
  · split at e
    · rename_i vs hl
      cases rv with
      | tup hs rs => exact ⟨_, _, rfl, hs, by rw [← rs.length]; exact hl, ρ, B, F, vs, G, ρ', rs, R, nd, e, k⟩
    · cases e
  · cases e
theorem asg_ts {f : M PV} {g : Tg} (h : tS K mg P (sAsg g f) D σ H) : tAsg (tE false K mg P f) (tG K mg P TT1 g) D σ H := by
  obtain ⟨ρ, B, F, o, R, e, k⟩ := h
  obtain ⟨⟨v, ρ1⟩, z1, e⟩ := bind_some e
  obtain ⟨ρ2, z2, e⟩ := bind_some e
  cases e
  exact ⟨ρ, B, F, v, ρ1, R, z1, fun x H1 B1 G1 F1 p => ⟨ρ1, B1, F1, v, G1, ρ2, p.rv, p.sl, p.nd, z2, fun σ' H' B' F' p' _ => k σ' H' B' F' ⟨p'.sl, p'.nd, p.st.trans p'.st⟩⟩⟩
theorem g_set {i : Nat} {nm : Str} {f : M PV} (hN : X.N.Nodup) (hi : X.N[i]? = some nm) (hx : Loc X.env.scope nm) (h : PE X e (tE false K mg P f)) (hs : swapsWith e (some (.Name nm p2)) pos.line X.env = pure false := by rfl)
    (hf : X.fn nm = true ∨ X.env.scope.names.lookup nm = some .local := by first | exact .inl rfl | exact .inr rfl | assumption) : PS X (.Assign [.Name nm p2] e pos) (tS K mg P (sAsg (gNm i) f)) :=
  PS.weak (ps_set hN hi hx h hs hf) fun D σ H h => by
    obtain ⟨ρ, B, F, o, R, e, k⟩ := h
    obtain ⟨⟨v, ρ1⟩, z1, e⟩ := bind_some e
    obtain ⟨ρ2, z2, e⟩ := bind_some e
    cases e
    refine ⟨ρ, B, F, v, ρ1, R, z1, fun x H1 B1 G1 F1 p => ?_⟩
    obtain ⟨F', p', _⟩ := put_ok p.rv p.sl p.nd z2
    exact k _ _ _ _ ⟨p'.sl, p'.nd, p.st.trans p'.st⟩
theorem g_asg {tg : Expr} {f : M PV} {g : Tg} (h : PE X e (tE false K mg P f)) (hg : PG X tg (tG K mg P TT1 g)) (hs : swapsWithSole [tg] e pos.line X.env = pure false := by rfl) (hw : swappedStores [tg] e X.env = pure none := by rfl)
    (h1 : (assignEach [tg] X.env).map (·.2) = [assign tg X.env] := by rfl) : PS X (.Assign [tg] e pos) (tS K mg P (sAsg g f)) := PS.weak (ps_asg h hg hs hw h1) fun D σ H h => asg_ts h
theorem g_par {i j : Nat} {x y : Str} {a b : Expr} {fa : M (List Opd)} {px py pt : Pos} {kt k2 pt2} (hc : X.calm = true) (hN : X.N.Nodup) (hi : X.N[i]? = some x) (hj : X.N[j]? = some y) (hij : i ≠ j)
    (hx : X.env.scope.names.lookup x = some .local) (hy : X.env.scope.names.lookup y = some .local) (ha : PA X [a, b] (tA false K mg P fa))
    (hw : swappedStores [.Tuple [.Name x px, .Name y py] kt pt] (.Tuple [a, b] k2 pt2) X.env = pure (some [x, y]) := by rfl)
    (hs : swapsWithSole [.Tuple [.Name x px, .Name y py] kt pt] (.Tuple [a, b] k2 pt2) pos.line X.env = pure false := by rfl) :
    PS X (.Assign [.Tuple [.Name x px, .Name y py] kt pt] (.Tuple [a, b] k2 pt2) pos) (tS K mg P (sPar i j fa)) := by
  refine PS.weak (ps_par hc hN hi hj hij hx hy ha hw hs) fun D σ H ⟨ρ, B, F, o, R, e, k⟩ => ?_
  obtain ⟨⟨os, ρ1⟩, z1, e⟩ := bind_some e
  obtain ⟨vs, z2, e⟩ := bind_some e
  refine ⟨ρ, B, F, os, ρ1, R, z1, fun xs H1 B1 G1 F1 p => ?_⟩
  have rv := ovs_tm p.ov z2
  match vs, e with
  | [v, w], e =>
    obtain ⟨ρ2, z3, e⟩ := bind_some e
    obtain ⟨ρ3, z4, e⟩ := bind_some e
    cases e
    cases rv with
    | @cons _ _ x0 xs0 Ga Gb r1 t =>
    cases t with
    | @cons _ _ y0 ys0 Gc Gd r2 t2 =>
    cases t2
    rw [List.append_nil] at *
    have nd := p.nd
    rw [List.append_assoc] at nd
    obtain ⟨n1, n2, n3⟩ := List.nodup_append.mp nd
    obtain ⟨m1, m2, m3⟩ := List.nodup_append.mp n2
    have nda : (Ga ++ F1).Nodup := List.nodup_append.mpr ⟨n1, m2, fun a1 h1 a2 h2 => n3 a1 h1 a2 (List.mem_append_right _ h2)⟩
    obtain ⟨Fa, pa, sa⟩ := put_ok r1 p.sl nda z3
    have ndb : (Gc ++ Fa).Nodup := by
      refine List.nodup_append.mpr ⟨m1, pa.nd, fun a1 h1 a2 h2 e => ?_⟩
      subst e
      rcases List.mem_append.mp (sa a1 h2) with h | h
      · exact n3 a1 h a1 (List.mem_append_left _ h1) rfl
      · exact m3 a1 h1 a1 h rfl
    obtain ⟨Fb, pb, sb⟩ := put_ok r2 pa.sl ndb z4
    refine ⟨x0, y0, rfl, k _ _ _ _ ⟨pb.sl, pb.nd, p.st.trans ⟨fun b hb => .inl ?_, Keep.refl⟩⟩⟩
    rcases List.mem_append.mp (sb b hb) with h | h
    · simp [h]
    · rcases List.mem_append.mp (sa b h) with h | h <;> simp [h]
theorem g_aug {i : Nat} {nm : Str} {f : M PV} {op : Operator} {g : PV → PV → Option PV} (hN : X.N.Nodup) (hi : X.N[i]? = some nm) (hx : Loc X.env.scope nm) (ho : OpR X (inplaceOp op) (rOp K mg g)) (h : PE X e (tE false K mg P f))
    (hf : X.fn nm = true ∨ X.env.scope.names.lookup nm = some .local := by first | exact .inl rfl | exact .inr rfl | assumption) : PS X (.AugAssign (.Name nm p2) op e pos) (tS K mg P (sAug i g f)) :=
  PS.weak (ps_aug hN hi hx h ho hf) fun D σ H ⟨ρ, B, F, o, R, e, k⟩ => by
    obtain ⟨v0, z0, e⟩ := bind_some e
    split at e
    · rename_i hp
      obtain ⟨⟨v, ρ1⟩, z1, e⟩ := bind_some e
      split at e
      · rename_i hp2
        obtain ⟨r, z2, e⟩ := bind_some e
        obtain ⟨ρ2, z3, e⟩ := bind_some e
        cases e
        obtain ⟨x, hx⟩ := slot_at R.slots z0
        have r0 := pure_get R.slots z0 hp hx
        refine ⟨x, hx, ρ, B, F, v, ρ1, R, z1, fun y H1 B1 G1 F1 p => ?_⟩
        have r0 := r0.keep p.st.keep R.slots.mut fun _ h => nomatch h
        have r1 := p.rv
        have eG := r1.pure hp2
        subst eG
        refine ⟨B1, v0, v, [], [], r, r0, r1, z2, fun z H2 B2 G2 rz ng fr kp => ?_⟩
        have sl2 := p.sl.keep kp MutW.nil fun _ _ h => nomatch h
        have nd2 : (G2 ++ F1).Nodup := List.nodup_append.mpr ⟨ng, p.nd, fun a1 h1 a2 h2 e => by
          subst e
          have := (p.sl.mut a1 h2).2
          rw [fr a1 h1] at this
          exact this⟩
        obtain ⟨F', p', _⟩ := put_ok rz sl2 nd2 z3
        exact k _ _ _ _ ⟨p'.sl, p'.nd, (p.st.trans ⟨fun b hb => (List.mem_append.mp hb).elim (fun h => .inr (fr b h)) .inl, kp.mono fun _ h => nomatch h⟩ : Step H B F H2 B2 (G2 ++ F1)).trans p'.st⟩
      · cases e
    · cases e
end
end GX

/-! GX: changes of lists and dicts. -/
namespace GX
open PySem PySem.Spec PyProof.Rows L2

section
variable {q : Bool} {K : PySem.W.Frag} {mg : Str → Option Value} {P : List V} {H H' H1 H2 : Hp} {B B' B1 B2 : Addr → Prop} {x y : V} {v w r c : PV} {xs : List PV} {ys : List V} {F F' F1 F2 G G1 G2 W : List Addr} {ρ ρ' ρ1 ρ2 : Rho} {σ σ' σ1 σ2 : Sg} {X : Cx} {a b e : Expr} {pos p2 : Pos} {D : Ends} {o : Out}
theorem Keep.at {p : Addr} {u : HO} : Keep [p] H B (upd H p u) B := fun b o e n => ⟨by rw [upd_ne (fun z => n (by simp [z]))]; exact e, Iff.rfl⟩
theorem MutW.one {p : Addr} (hB : B p) (m : Mut (H p)) : MutW [p] H B := fun b hb => by
  obtain rfl := List.mem_singleton.mp hb
  exact ⟨hB, m⟩
/-- what an object of a name is when it has been changed -/
structure Chd (K : PySem.W.Frag) (mg : Str → Option Value) (H : Hp) (B : Addr → Prop) (W Gv : List Addr) (ob' : PV) (o : V) (H' : Hp) (B' : Addr → Prop) (G' : List Addr) : Prop where
  rv : RV K mg H' B' ob' o G'
  nd : G'.Nodup
  sub : ∀ b ∈ G', b ∈ W ++ Gv
  kp : Keep W H B H' B'
section
variable (K mg)
def rSetP : TSet := fun o i v H Q => ∃ B ob kk vv Wo Wk Gv ob', RV K mg H B ob o Wo ∧ RV K mg H B kk i Wk ∧ RV K mg H B vv v Gv ∧ psetI ob kk vv = some ob' ∧ (Wo ++ Gv).Nodup ∧ ∀ H' B' G', Chd K mg H B Wo Gv ob' o H' B' G' → Q H'
end
theorem list_set {a : Addr} {j : Nat} {Fx : List Addr} (h : H a = some (.lst ys)) (hB : B a) (rs : RVs K mg H B xs ys Fx) (rv : RV K mg H B v x G) (nd : ((a :: Fx) ++ G).Nodup) (hj : j < xs.length) :
    ∃ G', Chd K mg H B (a :: Fx) G (.lst true (xs.set j v)) (.ref a) (upd H a (.lst (ys.set j x))) B G' := by
  have kp : Keep [a] H B (upd H a (.lst (ys.set j x))) B := Keep.at
  have m : MutW [a] H B := MutW.one hB (by rw [h]; trivial)
  have hnd : (a :: (Fx ++ G)).Nodup := nd
  obtain ⟨na, nd2⟩ := List.nodup_cons.mp hnd
  have rs' := rs.keep kp m fun b hb z => na (by simp at z; subst z; simp [hb])
  have rv' := rv.keep kp m fun b hb z => na (by simp at z; subst z; simp [hb])
  obtain ⟨y0, Fa, Gy, Fb, e1, e2, e3, e4⟩ := rs'.at (List.getElem?_eq_getElem hj)
  subst e3
  refine ⟨a :: (Fa ++ G ++ Fb), .lstO upd_same hB (e4 v x G rv'), ?_, fun b hb => ?_, kp.mono fun b hb => by simp at hb; simp [hb]⟩
  · refine List.nodup_cons.mpr ⟨fun hm => na ?_, ?_⟩
    · simp at hm ⊢
      rcases hm with h | h | h
      · exact .inl h
      · exact .inr (.inr (.inr h))
      · exact .inr (.inr (.inl h))
    · obtain ⟨n1, n2, n3⟩ := List.nodup_append.mp nd2
      obtain ⟨m1, m2, m3⟩ := List.nodup_append.mp n1
      obtain ⟨l1, l2, l3⟩ := List.nodup_append.mp m1
      refine List.nodup_append.mpr ⟨List.nodup_append.mpr ⟨l1, n2, fun a1 h1 a2 h2 => n3 a1 (by simp [h1]) a2 h2⟩, m2, fun a1 h1 a2 h2 => ?_⟩
      rcases List.mem_append.mp h1 with h1 | h1
      · exact m3 a1 (by simp [h1]) a2 h2
      · exact fun e => n3 a2 (by simp [h2]) a1 h1 e.symm
  · simp at hb ⊢
    rcases hb with h | h | h | h
    · exact .inl h
    · exact .inr (.inl h)
    · exact .inr (.inr (.inr (.inr h)))
    · exact .inr (.inr (.inr (.inl h)))
theorem putK_cons_eq {k k' : Key} {v v' : V} {r : List (Key × V)} (h : k' = k) (nd : k' ∉ r.map (·.1)) : putK ((k', v') :: r) k v = (k', v) :: r := by
  subst h
  unfold putK
  rw [if_pos (by simp)]
  simp only [List.map_cons, if_true, List.cons.injEq, true_and]
  refine (List.map_congr_left fun kv hkv => ?_).trans (List.map_id _)
  rw [if_neg]
  · rfl
  · intro e
    exact nd (List.mem_map.mpr ⟨kv, hkv, e⟩)
theorem putK_cons_ne {k k' : Key} {v v' : V} {r : List (Key × V)} (h : k' ≠ k) : putK ((k', v') :: r) k v = (k', v') :: putK r k v := by
  unfold putK
  have e : ((k', v') :: r).any (fun kv => decide (kv.1 = k)) = r.any fun kv => decide (kv.1 = k) := by simp [h]
  rw [e]
  split
  · simp [h]
  · rfl
theorem RVs.put : ∀ {ps : List (Key × PV)} {ks : List (Key × V)} {Fx : List Addr} {k : Key}, ps.map (·.1) = ks.map (·.1) → (ks.map (·.1)).Nodup → RVs K mg H B (ps.map (·.2)) (ks.map (·.2)) Fx → RV K mg H B v x G → (Fx ++ G).Nodup →
    (putP ps k v).map (·.1) = (putK ks k x).map (·.1) ∧ ∃ F', RVs K mg H B ((putP ps k v).map (·.2)) ((putK ks k x).map (·.2)) F' ∧ F'.Nodup ∧ ∀ b ∈ F', b ∈ Fx ++ G
  | [], [], _, k, _, _, .nil, rv, nd => ⟨rfl, G ++ [], .cons rv .nil, by simpa using nd, fun b hb => by simpa using hb⟩
  | [], _ :: _, _, _, e, _, _, _, _ => by simp at e
  | _ :: _, [], _, _, e, _, _, _, _ => by simp at e
  | (k1, v1) :: ps, (k2, v2) :: ks, Fx, k, e, nk, r, rv, nd => by
    simp only [List.map_cons, List.cons.injEq] at e
    obtain ⟨e1, e2⟩ := e
    subst e1
    simp only [List.map_cons, List.nodup_cons] at nk
    cases r with
    | @cons _ _ _ _ Fa Fb r1 t =>
    rw [List.append_assoc] at nd
    obtain ⟨n1, n2, n3⟩ := List.nodup_append.mp nd
    obtain ⟨m1, m2, m3⟩ := List.nodup_append.mp n2
    by_cases h : k1 = k
    · rw [putK_cons_eq h nk.1]
      unfold putP
      rw [if_pos h]
      refine ⟨by simp [e2], G ++ Fb, .cons rv t, List.nodup_append.mpr ⟨m2, m1, fun a1 h1 a2 h2 e => m3 a2 h2 a1 h1 e.symm⟩, fun b hb => ?_⟩
      simp at hb ⊢
      rcases hb with h | h
      · exact .inr (.inr h)
      · exact .inr (.inl h)
    · rw [putK_cons_ne h]
      unfold putP
      rw [if_neg h]
      obtain ⟨i1, F', i2, i3, i4⟩ := RVs.put (k := k) e2 nk.2 t rv n2
      refine ⟨by simp [i1], Fa ++ F', .cons r1 i2, List.nodup_append.mpr ⟨n1, i3, fun a1 h1 a2 h2 => n3 a1 h1 a2 (i4 a2 h2)⟩, fun b hb => ?_⟩
      rcases List.mem_append.mp hb with h | h
      · simp [h]
      · have := i4 b h
        simp at this ⊢
        rcases this with h | h
        · exact .inr (.inl h)
        · exact .inr (.inr h)
theorem dict_put {a : Addr} {k : Key} {ps : List (Key × PV)} {ks : List (Key × V)} {Fx : List Addr} (h : H a = some (.dK ks)) (hB : B a) (e : ps.map (·.1) = ks.map (·.1)) (nk : (ks.map (·.1)).Nodup) (rs : RVs K mg H B (ps.map (·.2)) (ks.map (·.2)) Fx) (rv : RV K mg H B v x G)
    (nd : ((a :: Fx) ++ G).Nodup) : ∃ G', Chd K mg H B (a :: Fx) G (.dic true (putP ps k v)) (.ref a) (upd H a (.dK (putK ks k x))) B G' := by
  have kp : Keep [a] H B (upd H a (.dK (putK ks k x))) B := Keep.at
  have m : MutW [a] H B := MutW.one hB (by rw [h]; trivial)
  have hnd : (a :: (Fx ++ G)).Nodup := nd
  obtain ⟨na, nd2⟩ := List.nodup_cons.mp hnd
  have rs' := rs.keep kp m fun b hb z => na (by simp at z; subst z; simp [hb])
  have rv' := rv.keep kp m fun b hb z => na (by simp at z; subst z; simp [hb])
  obtain ⟨i1, F', i2, i3, i4⟩ := RVs.put (k := k) e nk rs' rv' nd2
  refine ⟨a :: F', .dicO upd_same hB i1 i2, List.nodup_cons.mpr ⟨fun hm => na (i4 a hm), i3⟩, fun b hb => ?_, kp.mono fun b hb => by simp at hb; simp [hb]⟩
  rcases List.mem_cons.mp hb with h | h
  · simp [h]
  · have := i4 b h
    simp at this ⊢
    exact .inr this
theorem kv_keys {ks : List (Key × V)} {vs : List (Key × Value)} (r : KV ks vs) : ks.map (·.1) = vs.map (·.1) := by
  unfold KV at r
  induction r with
  | nil => rfl
  | cons a _ ih => simp [a.1, ih]
theorem dict_nodup {pins : List (Addr × Obj)} {s : Shared} {a : Addr} {ks : List (Key × V)} (I : Inv X pins σ H s) (h : H a = some (.dK ks)) : (ks.map (·.1)).Nodup := by
  obtain ⟨_, _, vs, r, dd⟩ := dk_of I.hok h
  rw [kv_keys r]
  obtain ⟨_, _, _, _, _, _, _, _, n⟩ := dd
  exact n
theorem ps_all (hu : X.A.units + 1 < cLine) : PSet X (rSetP K mg) := by
  intro pins s σ H o i v ov iv u Q I ro ri rv ⟨B, ob, kk, vv, Wo, Wk, Gv, ob', r1, r2, r3, g, nd, k⟩
  unfold psetI at g
  split at g
  · obtain ⟨j, e, rfl⟩ := Option.map_eq_some_iff.mp g
    cases r2
    cases r1 with
    | lstO h hB rs =>
      have hl := rs.length
      obtain ⟨_, hj, _, _⟩ := ixN_seq e
      obtain ⟨G', ch⟩ := list_set h hB rs r3 nd hj
      exact set_list pins s σ H _ _ v ov iv u Q I ro ri rv ⟨_, _, _, j, rfl, rfl, h, by rw [← hl]; exact e, k _ _ _ ch⟩
  · obtain ⟨kx, e, g⟩ := bind_some g
    obtain ⟨c, g⟩ := guard_some g
    cases g
    obtain rfl := toKey_ok r2 e
    cases r1 with
    | dicO h hB e2 rs =>
      have hl : _ = _ := congrArg List.length e2
      simp only [List.length_map] at hl
      obtain ⟨G', ch⟩ := dict_put (k := kx) h hB e2 (dict_nodup I h) rs r3 nd
      cases ro
      exact d_setItem hu I (.inl ⟨_, kx, h, rfl, by rw [← hl]; exact c, rfl⟩) ri rv fun s' I' => ⟨_, I', k _ _ _ ch⟩
  · cases g
/-- a name's object is changed -/
theorem chg_ok {i : Nat} {ob ob' : PV} {o : V} {Gv : List Addr} (R : RSs K mg H B ρ σ P F) (nd : (Gv ++ F).Nodup) (hg : (ρ[i]?).bind Slot.get = some ob) (ho : σ[i]? = some (some o)) (e : chg i ob' ρ = some ρ') (m : MutW Gv H B) :
    ∃ Wo, RV K mg H B ob o Wo ∧ (Wo ++ Gv).Nodup ∧ ∀ H' B' G', Chd K mg H B Wo Gv ob' o H' B' G' → ∃ F', PoS K mg P H B (Gv ++ F) ρ' σ H' B' F' := by
  obtain ⟨s, z1, z2⟩ := bind_some hg
  obtain ⟨s', z3, e⟩ := bind_some e
  rw [z1] at z3
  cases z3
  obtain ⟨y, p, F1, Go, F2, h1, h2, h3, h4, h5⟩ := R.at z1
  rw [ho] at h1
  cases h1
  rw [h4] at nd
  obtain ⟨n1, n2, n3⟩ := List.nodup_append.mp nd
  obtain ⟨m1, m2, m3⟩ := List.nodup_append.mp n2
  obtain ⟨l1, l2, l3⟩ := List.nodup_append.mp m1
  have ndo : (Go ++ Gv).Nodup := List.nodup_append.mpr ⟨l2, n1, fun a1 h1 a2 h2 e => n3 a2 h2 a1 (by simp [h1]) e.symm⟩
  have fin : ∀ {s1 : Slot} {H' B' G'}, MutW Go H B → Chd K mg H B Go Gv ob' o H' B' G' → RSl K mg H' B' s1 (some o) p G' → PoS K mg P H B (Gv ++ F) (ρ.set i s1) σ H' B' (F1 ++ G' ++ F2) := fun {s1 H' B' G'} mu ch rs => by
    obtain ⟨k1, _⟩ := h5 H' B' Go ch.kp mu (fun b hb hg => l3 b hb b hg rfl) (fun b hb hg => m3 b (by simp [hg]) b hb rfl)
    refine ⟨k1 s1 G' rs, ?_, ⟨fun b hb => .inl ?_, ch.kp.mono fun b hb => ?_⟩⟩
    · refine List.nodup_append.mpr ⟨List.nodup_append.mpr ⟨l1, ch.nd, fun a1 h1 a2 h2 e => ?_⟩, m2, fun a1 h1 a2 h2 e => ?_⟩
      · subst e
        rcases List.mem_append.mp (ch.sub a1 h2) with h | h
        · exact l3 a1 h1 a1 h rfl
        · exact n3 a1 h a1 (by simp [h1]) rfl
      · subst e
        rcases List.mem_append.mp h1 with h1 | h1
        · exact m3 a1 (by simp [h1]) a1 h2 rfl
        · rcases List.mem_append.mp (ch.sub a1 h1) with h | h
          · exact m3 a1 (by simp [h]) a1 h2 rfl
          · exact n3 a1 h a1 (by simp [h2]) rfl
    · rw [h4]
      simp at hb ⊢
      rcases hb with h | h | h
      · exact .inr (.inl h)
      · rcases List.mem_append.mp (ch.sub b h) with h | h
        · exact .inr (.inr (.inl h))
        · exact .inl h
      · exact .inr (.inr (.inr h))
    · rw [h4]
      simp [hb]
  cases h3 with
  | un => cases z2
  | val r =>
    cases z2
    cases e
    exact ⟨Go, r, ndo, fun H' B' G' ch => ⟨_, fin r.mut ch (.val ch.rv)⟩⟩
  | ref r =>
    cases z2
    cases e
    exact ⟨Go, r, ndo, fun H' B' G' ch => ⟨_, fin r.mut ch (.ref ch.rv)⟩⟩
theorem gg_ix {i : Nat} {f : M PV} (hu : X.A.units + 1 < cLine) (ha : PE X a (tVar i)) (hb : PE X b (tE false K mg P f))
    (hw : ∀ v, assign (.Subscript a b pos) X.env v = (do
      let ov ← holding [v] (eval a X.env)
      let iv ← holding [v, ov] (eval b X.env)
      standAt pos
      holding [v, ov, iv] (setItem ov iv v)
      release [v, ov, iv] []) := by intro _; rfl) : PG X (.Subscript a b pos) (tG K mg P TT1 (gIx i f)) :=
  PG.weak (pg_sub ha hb (ps_all (K := K) (mg := mg) hu) hw) fun x σ H Q ⟨ρ, B, F, v, G, ρ', rv, R, nd, e, k⟩ => by
    obtain ⟨_, z0, e⟩ := bind_some e
    obtain ⟨⟨kk, ρ1⟩, z1, e⟩ := bind_some e
    split at e
    · rename_i hp
      obtain ⟨ob, z2, e⟩ := bind_some e
      obtain ⟨ob', z3, e⟩ := bind_some e
      obtain ⟨o, ho⟩ := slot_at R z0
      refine ⟨o, ho, ρ, B, F, kk, ρ1, ⟨R, nodup_r nd⟩, z1, fun y H1 B1 G1 F1 p => ?_⟩
      have rk := p.rv
      have eG := rk.pure hp
      subst eG
      have rv' := rv.over nd R.mut p.st.keep
      have nd1 : (G ++ F1).Nodup := nodup_beside nd rv.mut p.nd p.st
      obtain ⟨Wo, ro, ndo, fin⟩ := chg_ok p.sl nd1 z2 ho e rv'.mut
      refine ⟨B1, ob, kk, v, Wo, [], G, ob', ro, rk, rv', z3, ndo, fun H' B' G' ch => ?_⟩
      obtain ⟨F', p'⟩ := fin H' B' G' ch
      exact k σ H' B' F' ⟨p'.sl, p'.nd, (p.st.beside G).trans p'.st⟩ trivial
    · cases e

/-! ### methods that change -/
section
variable (K mg)
def rMut (g : PV → List PV → Option (PV × PV)) : V → List V → Hp → VK → Prop := fun x xs H Q => ∃ B ob vs Wo Ga ob' r, RV K mg H B ob x Wo ∧ RVs K mg H B vs xs Ga ∧ (Wo ++ Ga).Nodup ∧ g ob vs = some (ob', r) ∧
  r.pure = true ∧ ∀ z H' B' G', Chd K mg H B Wo Ga ob' x H' B' G' → RV K mg H' B' r z [] → Q z H'
end
/-- the object's kind -/
def kindP : PV → String
  | .lst true _ => "list"
  | .dic true _ => "dict"
  | _ => ""
def cMut (i : Nat) (T : String) (g : PV → List PV → Option (PV × PV)) (a : M (List Opd)) : M PV := fun ρ => ((ρ[i]?).bind Slot.get).bind fun ob0 => if kindP ob0 = T then
  (a ρ).bind fun z => (tmVals z.1).bind fun vs => ((z.2[i]?).bind Slot.get).bind fun ob => (g ob vs).bind fun w => if w.2.pure then (chg i w.1 z.2).bind fun ρ2 => some (w.2, ρ2) else none else none
theorem tyV_ok {ob : PV} {o : V} (r : RV K mg H B ob o W) (h : kindP ob ≠ "") : tyV K (kindP ob) o H := by
  cases r with
  | lstO h1 _ _ => exact .inl ⟨rfl, _, .of h1⟩
  | dicO h1 _ _ _ => exact .inr (.inr (.inl ⟨rfl, .inl ⟨_, h1⟩⟩))
  | _ => exact absurd rfl h
theorem ge_mut {i : Nat} {g : PV → List PV → Option (PV × PV)} {f : M (List Opd)} {name : Str} {apos cpos : Pos} {T id : String} {es : List Expr} (hK : X.K = K) (pa : PlainAttrs T) (slot : PySem.Slot T name id) (hty : typeOf (.builtin id) = pure (.type "method_descriptor"))
    (hm : MtR X id (rMut K mg g)) (hT : T ≠ "") (ho : PE X a (tVar i)) (ha : PA X (b :: es) (tA false K mg P f))
    (hbase : attributeBase a name X.env (eval a X.env) = eval a X.env := by rfl)
    (hfew : ((backTo cpos (starEach (b :: es) X.env)).all (fun x => !x.1) && (backToKw cpos (keywordEach [] X.env)).all (fun x => x.1.isSome)
      && decide ((b :: es).length + ([] : List Keyword).length + (if ([] : List Keyword).isEmpty then 0 else 1) < 30)) = true := by rfl)
    (hline : (apos.endLine == cpos.line) = true := by rfl) (hs : starEach (b :: es) X.env = (false, eval b X.env) :: starEach es X.env := by rfl) (hplain : (backTo cpos (starEach es X.env)).any (·.1) = false := by rfl) :
    PE X (.Call (.Attribute a name apos) (b :: es) [] cpos) (tE false K mg P (cMut i T g f)) := by
  subst hK
  refine PE.weak (pe_bm pa slot hty hm ho ha hbase hfew hline hs hplain) fun σ H Q ⟨ρ, B, F, r, ρ', R, e, k⟩ => ?_
  obtain ⟨ob0, z0, e⟩ := bind_some e
  split at e
  · rename_i hk
    obtain ⟨⟨os, ρ1⟩, z1, e⟩ := bind_some e
    obtain ⟨vs, z2, e⟩ := bind_some e
    obtain ⟨ob, z3, e⟩ := bind_some e
    obtain ⟨⟨ob', r'⟩, z4, e⟩ := bind_some e
    split at e
    · rename_i hp
      obtain ⟨ρ2, z5, e⟩ := bind_some e
      cases e
      obtain ⟨o, ho⟩ := slot_at R.slots z0
      obtain ⟨W0, r0, _⟩ := OV.deref (o := .sl i) (x := o) (G := []) ⟨ho, rfl⟩ R.slots z0
      refine ⟨o, ho, by rw [← hk]; exact tyV_ok r0 (by rw [hk]; exact hT), ρ, B, F, os, ρ1, R, z1, fun xs H1 B1 G1 F1 p => ?_⟩
      have rv := ovs_tm p.ov z2
      obtain ⟨Wo, ro, ndo, fin⟩ := chg_ok p.sl p.nd z3 ho z5 rv.mut
      refine ⟨B1, ob, vs, Wo, G1, ob', _, ro, rv, ndo, z4, hp, fun z H' B' G' ch rz => ?_⟩
      obtain ⟨F', p'⟩ := fin H' B' G' ch
      exact k z H' B' [] F' ⟨rz, p'.sl, p'.nd, p.st.trans p'.st, fun z => nomatch z⟩
    · cases e
  · cases e
def gAppend : PV → List PV → Option (PV × PV)
  | .lst true xs, [v] => guard (xs.length < 16777216) (some (.lst true (xs ++ [v]), .non))
  | _, _ => none
def gExtend : PV → List PV → Option (PV × PV)
  | .lst true xs, [.lst _ ys] => guard (PV.pures ys = true ∧ xs.length + ys.length ≤ 16777216) (some (.lst true (xs ++ ys), .non))
  | _, _ => none
theorem list_app {a : Addr} {Fx : List Addr} {vs' : List PV} {us : List V} (h : H a = some (.lst ys)) (hB : B a) (rs : RVs K mg H B xs ys Fx) (rv : RVs K mg H B vs' us G) (nd : ((a :: Fx) ++ G).Nodup) :
    ∃ G', Chd K mg H B (a :: Fx) G (.lst true (xs ++ vs')) (.ref a) (upd H a (.lst (ys ++ us))) B G' := by
  have kp : Keep [a] H B (upd H a (.lst (ys ++ us))) B := Keep.at
  have m : MutW [a] H B := MutW.one hB (by rw [h]; trivial)
  have hnd : (a :: (Fx ++ G)).Nodup := nd
  obtain ⟨na, nd2⟩ := List.nodup_cons.mp hnd
  have rs' := rs.keep kp m fun b hb z => na (by simp at z; subst z; simp [hb])
  have rv' := rv.keep kp m fun b hb z => na (by simp at z; subst z; simp [hb])
  exact ⟨a :: (Fx ++ G), .lstO upd_same hB (rs'.append rv'), hnd, fun b hb => hb, kp.mono fun b hb => by simp at hb; simp [hb]⟩
theorem mt_appP : MtR X "list.append" (rMut K mg gAppend) := by
  intro pins s σ H x xs v us Q I rx rxs ⟨B, ob, vs, Wo, Ga, ob', r, r1, r2, nd, g, hp, k⟩
  unfold gAppend at g
  split at g
  · obtain ⟨c, g⟩ := guard_some g
    cases g
    cases r1 with
    | lstO h hB rs =>
      have hl := rs.length
      obtain ⟨G', ch⟩ := list_app h hB rs r2 nd
      cases r2 with
      | cons rv t =>
        cases t
        exact mt_append pins s σ H _ _ v us Q I rx rxs ⟨_, _, _, rfl, rfl, h, by rw [← hl]; exact c, k _ _ _ _ ch .non⟩
  · cases g
theorem mt_extP : MtR X "list.extend" (rMut K mg gExtend) := by
  intro pins s σ H x xs v us Q I rx rxs ⟨B, ob, vs, Wo, Ga, ob', r, r1, r2, nd, g, hp, k⟩
  unfold gExtend at g
  split at g
  · obtain ⟨⟨c1, c2⟩, g⟩ := guard_some g
    cases g
    cases r1 with
    | @lstO a0 ys0 _ Fx h hB rs =>
      have hl := rs.length
      cases r2 with
      | cons rv t =>
        cases t
        obtain ⟨b, zs, rfl, hb, rz⟩ := rv.lst c1
        have hl2 := rz.length
        have nd0 : ((a0 :: Fx) ++ ([] : List Addr)).Nodup := by rw [List.append_nil]; exact nodup_l nd
        obtain ⟨G', ch⟩ := list_app h hB rs rz nd0
        exact mt_extend pins s σ H _ _ v us Q I rx rxs ⟨_, _, _, _, rfl, rfl, h, hb, sz_le (by omega), k _ _ _ _ ⟨ch.rv, ch.nd, fun b hb => List.mem_append_left _ (by simpa using ch.sub b hb), ch.kp⟩ .non⟩
  · cases g
end
end GX

/-! GX: while, for, what they walk. -/
namespace GX
open PySem PySem.Spec PyProof.Rows L2

/-! ### while -/
def whN (t : M Bool) (b : S) : Nat → S
  | 0, _ => none
  | n + 1, ρ => (t ρ).bind fun z => if z.1 = true then (b z.2).bind fun o => match o with
      | .nx ρ1 => whN t b n ρ1
      | .ct ρ1 => whN t b n ρ1
      | .bk ρ1 => some (.nx ρ1)
      | .rt v ρ1 => some (.rt v ρ1) else some (.nx z.2)
theorem whN_succ {t : M Bool} {b : S} : ∀ {n : Nat} {ρ : Rho} {o : Out}, whN t b n ρ = some o → whN t b (n + 1) ρ = some o
  | 0, _, _, h => nomatch h
  | n + 1, ρ, o, h => by
    rw [whN] at h ⊢
    obtain ⟨z, e1, h⟩ := bind_some h
    rw [e1]
    simp only [Option.bind_some]
    split at h
    · rename_i hz
      rw [if_pos hz]
      obtain ⟨o1, e2, h⟩ := bind_some h
      rw [e2]
      cases o1 with
      | nx ρ1 => exact whN_succ h
      | ct ρ1 => exact whN_succ h
      | bk ρ1 => exact h
      | rt v ρ1 => exact h
    · rename_i hz
      rw [if_neg hz]
      exact h
theorem whN_le {t : M Bool} {b : S} {ρ : Rho} {o : Out} {n : Nat} (h : whN t b n ρ = some o) : ∀ k, whN t b (n + k) ρ = some o
  | 0 => h
  | k + 1 => whN_succ (whN_le h k)
open Classical in
noncomputable def sWhile (t : M Bool) (b : S) : S := fun ρ => if h : ∃ o n, whN t b n ρ = some o then some h.choose else none
theorem while_ex {t : M Bool} {b : S} {ρ : Rho} {o : Out} (h : sWhile t b ρ = some o) : ∃ n, whN t b n ρ = some o := by
  unfold sWhile at h
  split at h
  · rename_i hh
    cases h
    exact hh.choose_spec
  · cases h
theorem while_of {t : M Bool} {b : S} {ρ : Rho} {o : Out} {n : Nat} (h : whN t b n ρ = some o) : sWhile t b ρ = some o := by
  unfold sWhile
  have hh : ∃ o n, whN t b n ρ = some o := ⟨o, n, h⟩
  rw [dif_pos hh]
  obtain ⟨m, hm⟩ := hh.choose_spec
  have a := whN_le hm n
  have b := whN_le h m
  rw [Nat.add_comm] at a
  rw [a] at b
  exact b
/-- one turn -/
theorem while_turn {t : M Bool} {b : S} {ρ ρ1 : Rho} {o : Out} (ht : t ρ = some (true, ρ1)) (h : (b ρ1).bind (fun o => match o with
      | .nx ρ1 => sWhile t b ρ1
      | .ct ρ1 => sWhile t b ρ1
      | .bk ρ1 => some (.nx ρ1)
      | .rt v ρ1 => some (.rt v ρ1)) = some o) : sWhile t b ρ = some o := by
  obtain ⟨o1, e, h⟩ := bind_some h
  have st : ∀ ρ2 n, whN t b n ρ2 = some o → (o1 = .nx ρ2 ∨ o1 = .ct ρ2) → sWhile t b ρ = some o := fun ρ2 n hn hc => while_of (n := n + 1) (by
    rw [whN, ht]
    simp only [Option.bind_some, if_true]
    rw [e]
    rcases hc with rfl | rfl <;> exact hn)
  cases o1 with
  | nx ρ2 => obtain ⟨n, hn⟩ := while_ex h; exact st ρ2 n hn (.inl rfl)
  | ct ρ2 => obtain ⟨n, hn⟩ := while_ex h; exact st ρ2 n hn (.inr rfl)
  | bk ρ2 =>
    refine while_of (n := 1) ?_
    rw [whN, ht]
    simp only [Option.bind_some, if_true]
    rw [e]
    exact h
  | rt v ρ2 =>
    refine while_of (n := 1) ?_
    rw [whN, ht]
    simp only [Option.bind_some, if_true]
    rw [e]
    exact h
theorem while_end {t : M Bool} {b : S} {ρ ρ1 : Rho} (ht : t ρ = some (false, ρ1)) : sWhile t b ρ = some (.nx ρ1) := while_of (n := 1) (by
  rw [whN, ht]
  simp)

section
variable {q : Bool} {K : PySem.W.Frag} {mg : Str → Option Value} {P : List V} {H H' H1 H2 : Hp} {B B' B1 B2 : Addr → Prop} {x y : V} {v w r c : PV} {xs : List PV} {ys : List V} {F F' F1 F2 G G1 G2 W : List Addr} {ρ ρ' ρ1 ρ2 : Rho} {σ σ' σ1 σ2 : Sg} {X : Cx} {a b e : Expr} {pos p2 : Pos} {D : Ends} {o : Out}
theorem g_while {c : Expr} {body : List Stmt} {t : M Bool} {f : S} (hp : PassesOwn (model X.prog X.w) X.A X.env X.xe) (hc : PT X c (tT false K mg P t)) (hb : PSs X body (tS K mg P f)) : PS X (.While c body [] pos) (tS K mg P (sWhile t f)) := by
  refine PS.weak (ps_while hp hc hb) fun D σ H ⟨ρ, B, F, o, R, e, k⟩ => ?_
  obtain ⟨n0, e0⟩ := while_ex e
  refine ⟨fun m σ1 H1 => ∃ ρ1 B1 F1, PoS K mg P H B F ρ1 σ1 H1 B1 F1 ∧ whN t f m ρ1 = some o, ⟨n0, ρ, B, F, same_s R, e0⟩, ?_⟩
  rintro m σ1 H1 ⟨ρ1, B1, F1, p1, e1⟩
  cases m with
  | zero => cases e1
  | succ m =>
    rw [whN] at e1
    obtain ⟨⟨d, ρ2⟩, z1, e1⟩ := bind_some e1
    refine ⟨ρ1, B1, F1, d, ρ2, p1.rel, z1, fun H2 B2 F2 p2 => ?_⟩
    have p12 := p1.trans p2.toS
    cases d with
    | false =>
      rw [if_neg Bool.false_ne_true] at e1
      cases e1
      show (if false = true then _ else _)
      rw [if_neg Bool.false_ne_true]
      exact k _ _ _ _ p12
    | true =>
      rw [if_pos rfl] at e1
      show (if true = true then _ else _)
      rw [if_pos rfl]
      obtain ⟨o1, z2, e1⟩ := bind_some e1
      refine ⟨fun σ' H' => ∃ ρ' B' F', PoS K mg P H B F ρ' σ' H' B' F' ∧ whN t f m ρ' = some o, fun σ' H' h => ⟨m, Nat.lt_succ_self m, h⟩, ρ2, B2, F2, o1, p2.rel, z2, ?_⟩
      cases o1 with
      | nx ρ3 => exact fun σ' H' B' F' p => ⟨ρ3, B', F', p12.trans p, e1⟩
      | ct ρ3 => exact fun σ' H' B' F' p => ⟨ρ3, B', F', p12.trans p, e1⟩
      | bk ρ3 => cases e1; exact fun σ' H' B' F' p => k _ _ _ _ (p12.trans p)
      | rt v ρ3 => cases e1; exact fun x σ' H' B' G F' p => k _ _ _ _ _ _ (p12.toR p)

/-! ### what is walked -/
section
variable (K mg P)
/-- the iterator J gives the items; bs: the values that it reads -/
def ItOk (J : It) (items : List PV) (bs : List PV) (xs : List V) : Prop := ∀ H B Gs, RVs K mg H B bs xs Gs →
  (∀ i, items.length ≤ i → J.stop i H) ∧ ∀ i it, items[i]? = some it → J.go i H ∧ ∀ x H', J.yld i H x H' → it.pure = true → ∃ B', Keep [] H B H' B' ∧ RV K mg H' B' it x []
def tI (f : M (List PV)) : TI := fun σ H R => ∃ ρ B F items ρ', Rel K mg H B P ρ σ F ∧ f ρ = some (items, ρ') ∧ ∀ J H' B' F' bs xs Gs, RVs K mg H' B' bs xs Gs → RSs K mg H' B' ρ' σ P F' → (Gs ++ F').Nodup → Step H B F H' B' (Gs ++ F') → ItOk K mg J items bs xs → R J H'
end
theorem PI.weak {tg it : Expr} {t t' : TI} (h : PI X tg it t) (w : ∀ σ H Q, t' σ H Q → t σ H Q) : PI X tg it t' := ⟨fun pins s σ H Q I q => h.run pins s σ H Q I (w σ H Q q)⟩
def forL (g : Tg) (b : S) : List PV → Rho → Option Out
  | [], ρ => some (.nx ρ)
  | x :: xs, ρ => if x.pure then (g x ρ).bind fun ρ1 => (b ρ1).bind fun o => match o with
      | .nx ρ2 => forL g b xs ρ2
      | .ct ρ2 => forL g b xs ρ2
      | .bk ρ2 => some (.nx ρ2)
      | .rt v ρ2 => some (.rt v ρ2) else none
def sFor (f : M (List PV)) (g : Tg) (b : S) : S := fun ρ => (f ρ).bind fun z => forL g b z.1 z.2
theorem Step.toBeside {Gs : List Addr} (st : Step H B F H1 B1 (Gs ++ F1)) (st2 : Step H1 B1 F1 H2 B2 F2) : Step H B F H2 B2 (Gs ++ F2) := st.trans (st2.beside Gs)
theorem g_for {tg iter : Expr} {body : List Stmt} {fi : M (List PV)} {g : Tg} {f : S} (hp : PassesOwn (model X.prog X.w) X.A X.env X.xe) (hc : X.calm = true) (hi : PI X tg iter (tI K mg P fi)) (hg : PG X tg (tG K mg P TT1 g)) (hb : PSs X body (tS K mg P f))
    (hs : ∀ x, foldedSetIterable iter X.env x = pure x := by intro _; rfl) : PS X (.For tg iter body [] pos) (tS K mg P (sFor fi g f)) := by
  refine PS.weak (ps_for hp hc hi hg hb hs) fun D σ H ⟨ρ, B, F, o, R, e, k⟩ => ?_
  obtain ⟨⟨items, ρ1⟩, z1, e⟩ := bind_some e
  refine ⟨ρ, B, F, items, ρ1, R, z1, fun J H1 B1 F1 bs xs Gs rb sl nd st it => ?_⟩
  refine ⟨fun i m σ2 H2 => ∃ ρ2 B2 F2, RVs K mg H2 B2 bs xs Gs ∧ RSs K mg H2 B2 ρ2 σ2 P F2 ∧ (Gs ++ F2).Nodup ∧ Step H B F H2 B2 (Gs ++ F2) ∧ m = items.length - i ∧ forL g f (items.drop i) ρ2 = some o, ⟨items.length, ρ1, B1, F1, rb, sl, nd, st, rfl, e⟩, ?_⟩
  rintro i m σ2 H2 ⟨ρ2, B2, F2, rb2, sl2, nd2, st2, rfl, e2⟩
  obtain ⟨js, jg⟩ := it H2 B2 Gs rb2
  by_cases hi : i < items.length
  · have hd : items.drop i = items[i] :: items.drop (i + 1) := List.drop_eq_getElem_cons hi
    rw [hd, forL] at e2
    split at e2
    · rename_i hpure
      obtain ⟨ρ3, z3, e2⟩ := bind_some e2
      obtain ⟨o1, z4, e2⟩ := bind_some e2
      obtain ⟨go, yl⟩ := jg i items[i] (List.getElem?_eq_getElem hi)
      refine .inr ⟨go, fun σ' H' => ∃ ρ' B' F', RVs K mg H' B' bs xs Gs ∧ RSs K mg H' B' ρ' σ' P F' ∧ (Gs ++ F').Nodup ∧ Step H B F H' B' (Gs ++ F') ∧ forL g f (items.drop (i + 1)) ρ' = some o, fun σ' H' ⟨ρ', B', F', h1, h2, h3, h4, h5⟩ => ⟨items.length - (i + 1), by omega, ρ', B', F', h1, h2, h3, h4, rfl, h5⟩, fun x H' hy => ?_⟩
      obtain ⟨B3, kp, rx⟩ := yl x H' hy hpure
      have sl3 := sl2.keep kp MutW.nil fun _ _ h => nomatch h
      have rb3 := rb2.keep0 kp
      have st3 : Step H B F H' B3 (Gs ++ F2) := st2.trans ⟨fun b hb => .inl hb, kp.mono fun _ h => nomatch h⟩
      refine ⟨ρ2, B3, F2, items[i], [], ρ3, rx, sl3, by simpa using nodup_r nd2, z3, fun σ4 H4 B4 F4 p4 _ => ?_⟩
      have p4s : Step H' B3 F2 H4 B4 F4 := p4.st
      have nd4 := nodup_beside nd2 (fun b hb => by exact (rb3.mut b hb)) p4.nd p4s
      have rb4 := rb3.keep p4s.keep sl3.mut fun b hb => nodup_ne nd2 b hb
      have st4 := st3.toBeside p4s
      refine ⟨ρ3, B4, F4, o1, p4.rel, z4, ?_⟩
      have nxt : ∀ ρ5, forL g f (items.drop (i + 1)) ρ5 = some o → ∀ σ5 H5 B5 F5, PoS K mg P H4 B4 F4 ρ5 σ5 H5 B5 F5 → ∃ ρ' B' F', RVs K mg H5 B' bs xs Gs ∧ RSs K mg H5 B' ρ' σ5 P F' ∧ (Gs ++ F').Nodup ∧ Step H B F H5 B' (Gs ++ F') ∧ forL g f (items.drop (i + 1)) ρ' = some o := fun ρ5 e5 σ5 H5 B5 F5 p5 =>
        ⟨ρ5, B5, F5, rb4.keep p5.st.keep p4.sl.mut fun b hb => nodup_ne nd4 b hb, p5.sl, nodup_beside nd4 rb4.mut p5.nd p5.st, st4.toBeside p5.st, e5⟩
      cases o1 with
      | nx ρ5 => exact nxt ρ5 e2
      | ct ρ5 => exact nxt ρ5 e2
      | bk ρ5 =>
        cases e2
        exact fun σ5 H5 B5 F5 p5 => k σ5 H5 B5 F5 ⟨p5.sl, p5.nd, (st4.toBeside p5.st).less fun b hb => List.mem_append_right _ hb⟩
      | rt v ρ5 =>
        cases e2
        exact fun x5 σ5 H5 B5 G5 F5 p5 => k x5 σ5 H5 B5 G5 F5 ⟨p5.rv, p5.sl, p5.nd, (st4.toBeside p5.st).less fun b hb => List.mem_append_right _ hb⟩
    · cases e2
  · have hd : items.drop i = [] := List.drop_eq_nil_of_le (by omega)
    rw [hd] at e2
    cases e2
    exact .inl ⟨js i (by omega), k _ _ _ _ ⟨sl2, nodup_r nd2, st2.less fun b hb => List.mem_append_right _ hb⟩⟩

/-! ### the sources -/
def itemsOf : PV → Option (List PV)
  | .tup xs => some xs
  | .lst _ xs => some xs
  | .zls xs => some xs
  | _ => none
def iVal (f : M PV) : M (List PV) := fun ρ => (f ρ).bind fun z => (itemsOf z.1).bind fun xs => some (xs, z.2)
theorem SqL.uniq {xs ys : List V} {a : Addr} (h : Rd H a (.lst xs)) (h' : Rd H a (.lst ys)) : xs = ys := by
  rcases h with h | ⟨o, h⟩ <;> rcases h' with h' | ⟨o', h'⟩ <;> (rw [h] at h') <;> first | (cases h'; rfl) | cases h'
/-- over a list -/
theorem itOk_list {a : Addr} {bs : List PV} {v : PV} (hv : ∀ H B Gs, RVs K mg H B [v] [.ref a] Gs → ∃ ys W, SqL K H a ys ∧ RVs K mg H B bs ys W) : ItOk K mg (Itl K a) bs [v] [.ref a] := fun H B Gs r => by
  obtain ⟨ys, W, h, rs⟩ := hv H B Gs r
  have hl := rs.length
  refine ⟨fun i hi => ⟨ys, h, by omega⟩, fun i it hit => ?_⟩
  obtain ⟨y, F1, G, F2, e1, e2, e3, _⟩ := rs.at hit
  refine ⟨⟨ys, y, h, e1⟩, fun x H' hy hp => ?_⟩
  obtain ⟨rfl, e⟩ := hy
  have e4 := e ys h
  rw [e1] at e4
  cases e4
  have := e2.pure hp
  subst this
  exact ⟨B, Keep.refl, e2⟩
theorem rv_one (r : RVs K mg H B [v] [x] G) : ∃ W, RV K mg H B v x W := by
  cases r with | cons a b => exact ⟨_, a⟩
theorem gi_list {tg : Expr} {f : M PV} (hK : X.K = K) (h : PE X e (tE false K mg P f)) : PI X tg e (tI K mg P (iVal f)) := by
  subst hK
  -- a list and a tuple are walked by two rules: the value decides
  refine ⟨fun pins s σ H R I ⟨ρ, B, F, items, ρ', Rr, e1, k⟩ => ?_⟩
  obtain ⟨⟨v, ρ1⟩, z1, e1⟩ := bind_some e1
  obtain ⟨its, z2, e1⟩ := bind_some e1
  obtain ⟨rfl, rfl⟩ : items = its ∧ ρ' = ρ1 := by cases e1; exact ⟨rfl, rfl⟩
  by_cases ht : ∃ ts, v = .tup ts
  · obtain ⟨ts, rfl⟩ := ht
    cases z2
    refine (pi_tup (tg := tg) h).run pins s σ H R I ⟨ρ, B, F, _, _, Rr, z1, fun x H1 B1 G1 F1 p => ?_⟩
    have rv := p.rv
    cases rv with
    | @tup a ys _ _ hs rs =>
      refine ⟨a, rfl, ⟨_, hs⟩, k (Itt X.K a) H1 B1 F1 [.tup _] [.ref a] (G1 ++ []) (.cons p.rv .nil) p.sl (by rw [List.append_nil]; exact p.nd) (by rw [List.append_nil]; exact p.st) fun H2 B2 Gs r => ?_⟩
      obtain ⟨W, r1⟩ := rv_one r
      cases r1 with
      | @tup _ ys2 _ _ hs2 rs2 =>
        have hl := rs2.length
        refine ⟨fun i hi => ⟨ys2, hs2, by omega⟩, fun i it hit => ?_⟩
        obtain ⟨y, Fa, G, Fb, g1, g2, g3, _⟩ := rs2.at hit
        refine ⟨⟨ys2, y, hs2, g1⟩, fun x H' hy hp => ?_⟩
        obtain ⟨rfl, e⟩ := hy
        have e4 := e ys2 hs2
        rw [g1] at e4
        cases e4
        have := g2.pure hp
        subst this
        exact ⟨B2, Keep.refl, g2⟩
  · refine (pi_list (tg := tg) h).run pins s σ H R I ⟨ρ, B, F, _, _, Rr, z1, fun x H1 B1 G1 F1 p => ?_⟩
    have fin : ∀ {a : Addr}, x = .ref a → (∃ ys, SqL X.K H1 a ys) → (∀ H B Gs, RVs X.K mg H B [v] [.ref a] Gs → ∃ ys W, SqL X.K H a ys ∧ RVs X.K mg H B items ys W) → ∃ a, x = .ref a ∧ (∃ xs, SqL X.K H1 a xs) ∧ R (Itl X.K a) H1 := fun {a} ex ⟨ys, hy⟩ hv => by
      subst ex
      exact ⟨a, rfl, ⟨ys, hy⟩, k (Itl X.K a) H1 B1 F1 [v] [.ref a] (G1 ++ []) (.cons p.rv .nil) p.sl (by rw [List.append_nil]; exact p.nd) (by rw [List.append_nil]; exact p.st) (itOk_list hv)⟩
    have rv := p.rv
    cases rv with
    | lstO h _ rs => cases z2; exact fin rfl ⟨_, .inl (.inl h)⟩ fun H B Gs r => by obtain ⟨W, r1⟩ := rv_one r; cases r1 with | lstO h _ rs => exact ⟨_, _, .inl (.inl h), rs⟩
    | lstF h _ rs => cases z2; exact fin rfl ⟨_, .inl (.inl h)⟩ fun H B Gs r => by obtain ⟨W, r1⟩ := rv_one r; cases r1 with | lstF h _ rs => exact ⟨_, _, .inl (.inl h), rs⟩
    | zls h rs => cases z2; exact fin rfl ⟨_, h.sq⟩ fun H B Gs r => by obtain ⟨W, r1⟩ := rv_one r; cases r1 with | zls h rs => exact ⟨_, _, h.sq, rs⟩
    | tup h rs => exact absurd ⟨_, rfl⟩ ht
    | _ => cases z2
/-- range(n), range(a, b) -/
def rangeL (lo : Int) : Nat → List PV
  | 0 => []
  | n + 1 => .int lo :: rangeL (lo + 1) n
def smallI (j : Int) : Bool := decide (-4611686018427387904 ≤ j) && decide (j < 4611686018427387904)
def rng1 : List PV → Option (List PV)
  | [.int j] => if smallI j then some (rangeL 0 j.toNat) else none
  | _ => none
def rng2 : List PV → Option (List PV)
  | [.int i, .int j] => if smallI i && smallI j then some (rangeL i (j - i).toNat) else none
  | _ => none
def iCall (g : List PV → Option (List PV)) (a : M (List Opd)) : M (List PV) := fun ρ => (a ρ).bind fun z => (derefs z.1 z.2).bind fun vs => (g vs).bind fun r => some (r, z.2)
theorem rangeL_get : ∀ {n : Nat} {lo : Int} {i : Nat}, (rangeL lo n)[i]? = if i < n then some (.int (lo + i)) else none
  | 0, _, i => by simp [rangeL]
  | n + 1, lo, 0 => by simp [rangeL]
  | n + 1, lo, i + 1 => by
    rw [rangeL, List.getElem?_cons_succ, rangeL_get]
    by_cases h : i < n
    · rw [if_pos h, if_pos (by omega)]
      have e : lo + 1 + (i : Int) = lo + ((i + 1 : Nat) : Int) := by omega
      rw [e]
    · rw [if_neg h, if_neg (by omega)]
theorem rangeL_length : ∀ {n : Nat} {lo : Int}, (rangeL lo n).length = n
  | 0, _ => rfl
  | n + 1, lo => by rw [rangeL, List.length_cons, rangeL_length]
theorem itOk_range {lo : Int} {n : Nat} : ItOk K mg (Itr lo n) (rangeL lo n) [] [] := fun H B Gs _ => by
  refine ⟨fun i hi => ?_, fun i it hit => ?_⟩
  · rw [rangeL_length] at hi
    exact hi
  · rw [rangeL_get] at hit
    split at hit
    · rename_i h
      cases hit
      refine ⟨h, fun x H' hy hp => ?_⟩
      obtain ⟨rfl, rfl⟩ := hy
      exact ⟨B, Keep.refl, .int _⟩
    · cases hit
theorem px_int {j : Int} {x : V} (h : RX K mg H B (.int j) x) : x = .int j := by
  obtain ⟨W, r⟩ := h
  cases r
  rfl
theorem gi_range1 {tg a : Expr} {f : M (List Opd)} {p : Pos} (hm : X.mg "range" = none) (hg : Gl X "range") (ha : PA X [a] (tA false K mg P f)) (hs : starEach [a] X.env = [(false, eval a X.env)] := by rfl) : PI X tg (.Call (.Name "range" p) [a] [] pos) (tI K mg P (iCall rng1 f)) := by
  refine PI.weak (pi_range1 hg hm ha hs) fun σ H R ⟨ρ, B, F, items, ρ', Rr, e1, k⟩ => ?_
  obtain ⟨⟨os, ρ1⟩, z1, e1⟩ := bind_some e1
  obtain ⟨vs, z2, e1⟩ := bind_some e1
  obtain ⟨r, z3, e1⟩ := bind_some e1
  obtain ⟨rfl, rfl⟩ : items = r ∧ ρ' = ρ1 := by cases e1; exact ⟨rfl, rfl⟩
  refine ⟨ρ, B, F, os, _, Rr, z1, fun xs H1 B1 G1 F1 p => ?_⟩
  have hp := ovs_derefs p.sl p.ov z2
  unfold rng1 at z3
  split at z3
  · split at z3
    · rename_i j hj
      cases z3
      simp only [smallI, Bool.and_eq_true, decide_eq_true_eq] at hj
      cases hp with
      | cons h t =>
        cases t
        have := px_int h
        subst this
        refine ⟨j, rfl, by omega, by omega, k (Itr 0 j.toNat) H1 B1 F1 [] [] [] .nil p.sl (by exact nodup_r p.nd) (p.st.less fun b hb => List.mem_append_right _ hb) itOk_range⟩
    · cases z3
  · cases z3
theorem gi_range2 {tg a b : Expr} {f : M (List Opd)} {p : Pos} (hm : X.mg "range" = none) (hg : Gl X "range") (ha : PA X [a, b] (tA false K mg P f)) (hs : starEach [a, b] X.env = [(false, eval a X.env), (false, eval b X.env)] := by rfl) (hs2 : starEach [b] X.env = [(false, eval b X.env)] := by rfl) : PI X tg (.Call (.Name "range" p) [a, b] [] pos) (tI K mg P (iCall rng2 f)) := by
  refine PI.weak (pi_range2 hg hm ha hs hs2) fun σ H R ⟨ρ, B, F, items, ρ', Rr, e1, k⟩ => ?_
  obtain ⟨⟨os, ρ1⟩, z1, e1⟩ := bind_some e1
  obtain ⟨vs, z2, e1⟩ := bind_some e1
  obtain ⟨r, z3, e1⟩ := bind_some e1
  obtain ⟨rfl, rfl⟩ : items = r ∧ ρ' = ρ1 := by cases e1; exact ⟨rfl, rfl⟩
  refine ⟨ρ, B, F, os, _, Rr, z1, fun xs H1 B1 G1 F1 p => ?_⟩
  have hp := ovs_derefs p.sl p.ov z2
  unfold rng2 at z3
  split at z3
  · split at z3
    · rename_i i j hj
      cases z3
      simp only [smallI, Bool.and_eq_true, decide_eq_true_eq] at hj
      cases hp with
      | cons h t =>
        cases t with
        | cons h2 t =>
          cases t
          have := px_int h
          subst this
          have := px_int h2
          subst this
          refine ⟨i, j, rfl, ⟨by omega, by omega, by omega, by omega⟩, k (Itr i (j - i).toNat) H1 B1 F1 [] [] [] .nil p.sl (by exact nodup_r p.nd) (p.st.less fun b hb => List.mem_append_right _ hb) itOk_range⟩
    · cases z3
  · cases z3
end
end GX

/-! GX: list comprehensions with one clause. -/
namespace GX
open PySem PySem.Spec PyProof.Rows L2

def mskS (vs : List Nat) : Nat → Sg → Sg
  | _, [] => []
  | k, y :: σ => (if k ∈ vs then none else y) :: mskS vs (k + 1) σ
/-- the block's own names hold nothing -/
def mskR (vs : List Nat) : Nat → Rho → Rho
  | _, [] => []
  | k, y :: ρ => (if k ∈ vs then .un else y) :: mskR vs (k + 1) ρ
/-- .. and what they held comes back -/
def bckR (vs : List Nat) : Nat → Rho → Rho → Rho
  | k, s :: ρ', s0 :: ρ => (if k ∈ vs then s0 else s) :: bckR vs (k + 1) ρ' ρ
  | _, ρ', _ => ρ'
def Slot.pure : Slot → Bool
  | .un => true
  | .val v => v.pure
  | .ref v => v.pure
def pureW (vs : List Nat) : Nat → Rho → Bool
  | _, [] => true
  | k, s :: ρ => (!(decide (k ∈ vs)) || s.pure) && pureW vs (k + 1) ρ

theorem mskS_get {vs : List Nat} : ∀ {σ : Sg} {k i : Nat}, (mskS vs k σ)[i]? = (σ[i]?).map fun y => if k + i ∈ vs then none else y
  | [], _, _ => by simp [mskS]
  | y :: σ, k, 0 => by simp [mskS]
  | y :: σ, k, i + 1 => by
    rw [mskS, List.getElem?_cons_succ, mskS_get, List.getElem?_cons_succ]
    have e : k + 1 + i = k + (i + 1) := by omega
    rw [e]
theorem wipe_get {σ : Sg} {i : Nat} : ∀ {vs : List Nat}, (wipe σ vs)[i]? = (σ[i]?).map fun y => if i ∈ vs then none else y
  | [] => by simp [wipe]
  | v :: vs => by
    unfold wipe
    by_cases h : v = i
    · subst h
      cases e : σ[v]? with
      | none =>
        have : σ.length ≤ v := by simpa using e
        rw [List.getElem?_eq_none (by rw [List.length_set, wipe_length]; exact this)]
        rfl
      | some y =>
        obtain ⟨hl, _⟩ := List.getElem?_eq_some_iff.mp e
        rw [List.getElem?_set_self (by rw [wipe_length]; exact hl)]
        simp
    · rw [List.getElem?_set_ne h, wipe_get]
      congr 1
      funext y
      have : (i ∈ v :: vs) ↔ i ∈ vs := by simp [Ne.symm h]
      simp only [this]
theorem wipe_msk {σ : Sg} {vs : List Nat} : wipe σ vs = mskS vs 0 σ := by
  apply List.ext_getElem?
  intro i
  rw [wipe_get, mskS_get, Nat.zero_add]
theorem wipe_wipe {σ : Sg} {vs : List Nat} : wipe (wipe σ vs) vs = wipe σ vs := by
  apply List.ext_getElem?
  intro i
  rw [wipe_get, wipe_get, Option.map_map]
  congr 1
  funext y
  simp only [Function.comp]
  split <;> rfl

section
variable {q : Bool} {K : PySem.W.Frag} {mg : Str → Option Value} {P : List V} {H H' H1 H2 : Hp} {B B' B1 B2 : Addr → Prop} {x y : V} {v w r c : PV} {xs : List PV} {ys : List V} {F F' F1 F2 G G1 G2 W : List Addr} {ρ ρ' ρ1 ρ2 : Rho} {σ σ' σ1 σ2 : Sg} {X : Cx} {a b e : Expr} {pos p2 : Pos} {D : Ends} {o : Out}
theorem RSs.msk {vs : List Nat} : ∀ {ρ : Rho} {σ : Sg} {P : List V} {F : List Addr} {k : Nat}, RSs K mg H B ρ σ P F → ∃ F', RSs K mg H B (mskR vs k ρ) (mskS vs k σ) P F' ∧ F'.Sublist F
  | _, _, _, _, _, .nil => ⟨[], .nil, .slnil⟩
  | _, _, _, _, k, .cons (F := F) (G := G) r t => by
    obtain ⟨F', t', s⟩ := RSs.msk (vs := vs) (k := k + 1) t
    unfold mskR mskS
    by_cases h : k ∈ vs
    · rw [if_pos h, if_pos h]
      exact ⟨[] ++ F', .cons .un t', List.Sublist.append (List.nil_sublist F) s⟩
    · rw [if_neg h, if_neg h]
      exact ⟨F ++ F', .cons r t', List.Sublist.append (List.Sublist.refl F) s⟩
theorem RSl.pureF {s : Slot} {y : Option V} {p : V} (r : RSl K mg H B s y p F) (h : s.pure = true) : F = [] := by
  cases r with
  | un => rfl
  | val r => exact r.pure h
  | ref r => exact r.pure h
theorem RSs.bck {vs : List Nat} (k0 : Keep W H B H' B') (m : MutW W H B) : ∀ {ρ' ρ : Rho} {σ : Sg} {P : List V} {F F' : List Addr} {k : Nat}, RSs K mg H B ρ σ P F → pureW vs k ρ = true → RSs K mg H' B' ρ' (mskS vs k σ) P F' → ∃ F'', RSs K mg H' B' (bckR vs k ρ' ρ) σ P F'' ∧ F''.Sublist F'
  | _, _, [], [], _, F', _, .nil, _, s => by
    cases s
    exact ⟨[], by unfold bckR; exact .nil, .slnil⟩
  | _, _, _ :: _, _ :: _, _, F', k, .cons (F := F0) r t, h, s => by
    unfold pureW at h
    simp only [Bool.and_eq_true] at h
    obtain ⟨h1, h2⟩ := h
    unfold mskS at s
    cases s with
    | @cons s1 _ _ ρ1 _ _ Fa Fb r' t' =>
      obtain ⟨F2, t2, sub⟩ := RSs.bck k0 m t h2 t'
      unfold bckR
      by_cases hk : k ∈ vs
      · rw [if_pos hk]
        have e : F0 = [] := r.pureF (by simpa [hk] using h1)
        subst e
        exact ⟨[] ++ F2, .cons (RSs.keep1 k0 m r fun _ h => nomatch h) t2, List.Sublist.append (List.nil_sublist Fa) sub⟩
      · rw [if_neg hk]
        rw [if_neg hk] at r'
        exact ⟨Fa ++ F2, .cons r' t2, List.Sublist.append (List.Sublist.refl Fa) sub⟩

def compL (vs : List Nat) (g : Tg) (t : M Bool) (e : M PV) : List PV → Rho → Option (List PV × Rho)
  | [], ρ => some ([], ρ)
  | x :: xs, ρ => if x.pure then (g x ρ).bind fun ρ1 => (t ρ1).bind fun z => if z.1 then (e z.2).bind fun y => (compL vs g t e xs (mskR vs 0 y.2)).bind fun r => some (y.1 :: r.1, r.2) else compL vs g t e xs (mskR vs 0 z.2) else none
def cComp (vs : List Nat) (f : M (List PV)) (g : Tg) (t : M Bool) (e : M PV) : M PV := fun ρ => (f ρ).bind fun z => if pureW vs 0 z.2 && decide (z.1.length ≤ 16777216) then (compL vs g t e z.1 (mskR vs 0 z.2)).bind fun r => some (.lst true r.1, bckR vs 0 r.2 z.2) else none
def mYes : M Bool := fun ρ => some (true, ρ)
theorem gts_nil : PTs X [] (tT false K mg P mYes) := ⟨fun pins s σ H Q I ⟨ρ, B, F, b, ρ', R, e, k⟩ => by
  cases e
  exact pts_nil.run pins s σ H Q I (k H B F ⟨R.slots, R.nd, Step.refl, fun h => nomatch h⟩)⟩
theorem gts_one {c : Expr} {t : M Bool} (h : PT X c (tT false K mg P t)) : PTs X [c] (tT false K mg P t) := pts_one h

/-- where a comprehension stands at its i-th turn -/
structure CompAt (K : PySem.W.Frag) (mg : Str → Option Value) (P : List V) (vs : List Nat) (g : Tg) (t : M Bool) (te : M PV) (items : List PV) (bs : List PV) (xs : List V) (Gs : List Addr) (σw : Sg) (H1 : Hp) (B1 : Addr → Prop) (F1 : List Addr) (D : Addr) (fin : List PV) (ρe : Rho)
    (i : Nat) (H : Hp) (B : Addr → Prop) (F Fa : List Addr) (ρ : Rho) (acc r : List PV) (ys : List V) : Prop where
  hbs : RVs K mg H B bs xs Gs
  sl : RSs K mg H B ρ σw P F
  lst : H D = some (.lst ys)
  own : B D
  hacc : RVs K mg H B acc ys Fa
  nd : (Gs ++ (D :: (Fa ++ F))).Nodup
  st : Step H1 B1 F1 H B (D :: (Fa ++ F))
  len : acc.length ≤ i
  run : compL vs g t te (items.drop i) ρ = some (r, ρe)
  all : acc ++ r = fin

theorem nd_parts {Gs Fa G6 F6 : List Addr} {D : Addr} (h5 : (Gs ++ (D :: (Fa ++ (G6 ++ F6)))).Nodup) : D ∉ Gs ∧ D ∉ Fa ∧ D ∉ G6 ∧ D ∉ F6 := by grind [List.nodup_append]
theorem not_one {A : List Addr} {D : Addr} (h : D ∉ A) : ∀ b ∈ A, b ∉ [D] := fun b hb e => h (by simp at e; subst e; exact hb)
theorem comp_te {vs : List Nat} {f : M (List PV)} {g : Tg} {t : M Bool} {te : M PV} {H : Hp} {Q : VK} (h : tE false K mg P (cComp vs f g t te) σ H Q) : tLc (tI K mg P f) (tG K mg P (TW vs) g) (tT false K mg P t) (tE false K mg P te) vs σ H Q := by
  obtain ⟨ρ, B, F, v, ρ', R, e1, k⟩ := h
  obtain ⟨⟨items, ρ1⟩, z1, e1⟩ := bind_some e1
  split at e1
  rotate_left
  · cases e1
  rename_i hc
  simp only [Bool.and_eq_true, decide_eq_true_eq] at hc
  obtain ⟨hpw, hlen⟩ := hc
  obtain ⟨⟨fin, ρe⟩, z2, e1⟩ := bind_some e1
  obtain ⟨rfl, rfl⟩ : v = .lst true fin ∧ ρ' = bckR vs 0 ρe ρ1 := by cases e1; exact ⟨rfl, rfl⟩
  refine ⟨ρ, B, F, items, ρ1, R, z1, fun J H1 B1 F1 bs xs Gs rb sl nd st it D hD => ?_⟩
  have mD : ∀ b ∈ Gs ++ F1, b ≠ D := fun b hb e => by
    subst e
    have : Mut (H1 b) := (List.mem_append.mp hb).elim (fun h => (rb.mut b h).2) fun h => (sl.mut b h).2
    rw [hD] at this
    exact this
  have kD : Keep [] H1 B1 (upd H1 D (.lst [])) (own1 B1 D) := Keep.newO hD
  obtain ⟨F0, sl0, sub0⟩ := (sl.keep kD MutW.nil fun _ _ h => nomatch h).msk (vs := vs) (k := 0)
  have c0 : CompAt K mg P vs g t te items bs xs Gs (wipe σ vs) H1 B1 F1 D fin ρe 0 (upd H1 D (.lst [])) (own1 B1 D) F0 [] (mskR vs 0 ρ1) [] fin [] := by
    refine ⟨rb.keep0 kD, by rw [wipe_msk]; exact sl0, upd_same, .inl rfl, .nil, ?_, ⟨fun b hb => ?_, kD.mono fun _ h => nomatch h⟩, Nat.le_refl _, z2, rfl⟩
    · have n2 : (Gs ++ F0).Nodup := nd.sublist (List.Sublist.append (List.Sublist.refl _) sub0)
      have m2 : ∀ b ∈ Gs ++ F0, b ≠ D := fun b hb => mD b ((List.Sublist.append (List.Sublist.refl Gs) sub0).subset hb)
      grind [List.nodup_append]
    · rcases List.mem_cons.mp hb with e | hb
      · exact .inr (e ▸ hD)
      · exact .inl (sub0.subset (by simpa using hb))
  refine ⟨fun i m H => m = items.length - i ∧ ∃ B F Fa ρ acc r ys, CompAt K mg P vs g t te items bs xs Gs (wipe σ vs) H1 B1 F1 D fin ρe i H B F Fa ρ acc r ys, ⟨items.length, by simp, _, _, _, _, _, _, _, c0⟩, ?_⟩
  rintro i m H2 ⟨rfl, B2, F2, Fa, ρ2, acc, r, ys, c⟩
  obtain ⟨js, jg⟩ := it H2 B2 Gs c.hbs
  by_cases hi : i < items.length
  · have hd : items.drop i = items[i] :: items.drop (i + 1) := List.drop_eq_getElem_cons hi
    have e2 := c.run
    rw [hd, compL] at e2
    split at e2
    rotate_left
    · cases e2
    rename_i hpure
    obtain ⟨ρ3, z3, e2⟩ := bind_some e2
    obtain ⟨⟨b, ρ4⟩, z4, e2⟩ := bind_some e2
    obtain ⟨go, yl⟩ := jg i items[i] (List.getElem?_eq_getElem hi)
    refine .inr ⟨go, fun H' => ∃ B F Fa ρ acc r ys, CompAt K mg P vs g t te items bs xs Gs (wipe σ vs) H1 B1 F1 D fin ρe (i + 1) H' B F Fa ρ acc r ys, fun H' h => ⟨items.length - (i + 1), by omega, rfl, h⟩, fun x H' hy => ?_⟩
    obtain ⟨B3, kp, rx⟩ := yl x H' hy hpure
    have sl3 := c.sl.keep kp MutW.nil fun _ _ h => nomatch h
    have bs3 := c.hbs.keep0 kp
    have ac3 := c.hacc.keep0 kp
    obtain ⟨l3, o3⟩ := kp D _ c.lst (fun h => nomatch h)
    have st3 : Step H1 B1 F1 H' B3 (D :: (Fa ++ F2)) := c.st.trans ⟨fun b hb => .inl hb, kp.mono fun _ h => nomatch h⟩
    have ndF : F2.Nodup := by have := c.nd; grind [List.nodup_append]
    refine ⟨ρ2, B3, F2, items[i], [], ρ3, rx, sl3, by simpa using ndF, z3, fun σ4 H4 B4 F4 p4 tw => ⟨tw.trans wipe_wipe, ?_⟩⟩
    have p4s : Step H' B3 F2 H4 B4 F4 := p4.st
    refine ⟨ρ3, B4, F4, b, ρ4, p4.rel, z4, fun H5 B5 F5 p5 => ?_⟩
    have st5 : Step H' B3 F2 H5 B5 F5 := p4s.trans p5.st
    -- behind the tests
    have rest : ∀ {H6 : Hp} {B6 : Addr → Prop} {F6 : List Addr}, Step H' B3 F2 H6 B6 F6 → F6.Nodup → RVs K mg H6 B6 bs xs Gs ∧ RVs K mg H6 B6 acc ys Fa ∧ H6 D = some (.lst ys) ∧ B6 D ∧ (Gs ++ (D :: (Fa ++ F6))).Nodup ∧ Step H1 B1 F1 H6 B6 (D :: (Fa ++ F6)) := fun {H6 B6 F6} s6 n6 => by
      have nd := c.nd
      have m3 : MutW F2 H' B3 := sl3.mut
      have d1 : ∀ b ∈ Gs, b ∉ F2 := by grind [List.nodup_append]
      have d2 : ∀ b ∈ Fa, b ∉ F2 := by grind [List.nodup_append]
      have d3 : D ∉ F2 := by grind [List.nodup_append]
      obtain ⟨l6, o6⟩ := s6.keep D _ l3 d3
      refine ⟨bs3.keep s6.keep m3 d1, ac3.keep s6.keep m3 d2, l6, o6.mpr (o3.mpr c.own), ?_, ?_⟩
      · have fr : ∀ b ∈ F6, b ∉ Gs ++ (D :: Fa) := fun b hb hg => by
          rcases s6.own b hb with h | h
          · grind [List.nodup_append]
          · have : Mut (H' b) := by
              simp only [List.mem_append, List.mem_cons] at hg
              rcases hg with h | h | h
              · exact (bs3.mut b h).2
              · subst h; rw [l3]; trivial
              · exact (ac3.mut b h).2
            rw [h] at this
            exact this
        grind [List.nodup_append]
      · exact st3.trans (s6.beside (D :: Fa))
    cases b with
    | false =>
      simp only [Bool.false_eq_true, if_false]
      have e2 : compL vs g t te (items.drop (i + 1)) (mskR vs 0 ρ4) = some (r, ρe) := by simpa using e2
      obtain ⟨F7, sl7, sub7⟩ := p5.sl.msk (vs := vs) (k := 0)
      rw [← wipe_msk, show wipe σ4 vs = wipe σ vs from tw.trans wipe_wipe] at sl7
      obtain ⟨h1, h2, h3, h4, h5, h6⟩ := rest st5 p5.nd
      have sb : List.Sublist (D :: (Fa ++ F7)) (D :: (Fa ++ F5)) := (List.Sublist.append (List.Sublist.refl Fa) sub7).cons_cons D
      exact ⟨B5, F7, Fa, _, acc, r, ys, h1, sl7, h3, h4, h2, h5.sublist (List.Sublist.append (List.Sublist.refl Gs) sb), h6.less fun b hb => sb.subset hb, Nat.le_succ_of_le c.len, e2, c.all⟩
    | true =>
      simp only [if_true]
      have e2 : (te ρ4).bind (fun y => (compL vs g t te (items.drop (i + 1)) (mskR vs 0 y.2)).bind fun r => some (y.1 :: r.1, r.2)) = some (r, ρe) := by simpa using e2
      obtain ⟨⟨y, ρ5⟩, z5, e2⟩ := bind_some e2
      obtain ⟨⟨r', ρe'⟩, z6, e2⟩ := bind_some e2
      obtain ⟨rfl, rfl⟩ : r = y :: r' ∧ ρe = ρe' := by cases e2; exact ⟨rfl, rfl⟩
      refine ⟨ρ4, B5, F5, y, ρ5, p5.rel, z5, fun yv H6 B6 G6 F6 p6 => ?_⟩
      obtain ⟨h1, h2, h3, h4, h5, h6⟩ := rest (st5.trans p6.st) p6.nd
      have hl : acc.length = ys.length := c.hacc.length
      have cl := c.len
      refine ⟨ys, h3, by show ys.length < 16777216; omega, ?_⟩
      have kp7 : Keep [D] H6 B6 (upd H6 D (.lst (ys ++ [yv]))) B6 := Keep.at
      have m7 : MutW [D] H6 B6 := MutW.one h4 (by rw [h3]; trivial)
      obtain ⟨n1, n2, n3, n4⟩ := nd_parts h5
      have d1 := not_one n1
      have d2 := not_one n2
      have d3 := not_one n3
      have d4 := not_one n4
      obtain ⟨F7, sl7, sub7⟩ := (p6.sl.keep kp7 m7 d4).msk (vs := vs) (k := 0)
      rw [← wipe_msk, show wipe σ4 vs = wipe σ vs from tw.trans wipe_wipe] at sl7
      have ac7 := (h2.keep kp7 m7 d2).append (.cons (p6.rv.keep kp7 m7 d3) .nil)
      have sb : List.Sublist (D :: ((Fa ++ (G6 ++ [])) ++ F7)) (D :: (Fa ++ (G6 ++ F6))) := by
        rw [List.append_nil, List.append_assoc]
        exact (List.Sublist.append (List.Sublist.refl Fa) (List.Sublist.append (List.Sublist.refl G6) sub7)).cons_cons D
      refine ⟨B6, F7, Fa ++ (G6 ++ []), _, acc ++ [y], r', ys ++ [yv], h1.keep kp7 m7 d1, sl7, upd_same, h4, ac7, h5.sublist (List.Sublist.append (List.Sublist.refl Gs) sb), ?_, by simp only [List.length_append, List.length_cons, List.length_nil]; omega, z6, by rw [← c.all]; simp⟩
      have s7 : Step H6 B6 (D :: (Fa ++ (G6 ++ F6))) (upd H6 D (.lst (ys ++ [yv]))) B6 (D :: (Fa ++ (G6 ++ F6))) := ⟨fun b hb => .inl hb, kp7.mono fun b hb => by simp at hb; simp [hb]⟩
      exact (h6.trans s7).less fun b hb => sb.subset hb
  · have hd : items.drop i = [] := List.drop_eq_nil_of_le (by omega)
    have e2 := c.run
    rw [hd] at e2
    obtain ⟨rfl, rfl⟩ : r = [] ∧ ρe = ρ2 := by cases e2; exact ⟨rfl, rfl⟩
    have ea := c.all
    rw [List.append_nil] at ea
    subst ea
    have sl2 := c.sl
    rw [wipe_msk] at sl2
    obtain ⟨F3, sl3, sub3⟩ := RSs.bck c.st.keep sl.mut sl hpw sl2
    refine .inl ⟨js i (by omega), k (.ref D) H2 B2 (D :: Fa) F3 ⟨.lstO c.lst c.own c.hacc, sl3, ?_, ?_, fun h => nomatch h⟩⟩
    · have n := nodup_r c.nd
      exact n.sublist ((List.Sublist.append (List.Sublist.refl Fa) sub3).cons_cons D)
    · refine (st.trans (c.st.beside Gs)).less fun b hb => List.mem_append_right _ ?_
      exact ((List.Sublist.append (List.Sublist.refl Fa) sub3).cons_cons D).subset hb
theorem ge_comp {elt tg iter : Expr} {ifs : List Expr} {scope : Scope} {own : List (Str × Nat)} {f : M (List PV)} {g : Tg} {t : M Bool} {te : M PV} (hc : X.calm = true) (hN : X.N.Nodup) (hi : PI X tg iter (tI K mg P f)) (ok : BlkOk X.N X.env.scope scope own)
    (hg : ∀ (s : Shared) (H : Hp) (C : Addr) (cl : List (Str × Addr)) (fp : List Addr), PG (X.blk s H scope (compEnvC scope cl C X.env) fp) tg (tG K mg P (TW (own.map (·.2))) g)) (ht : ∀ (s : Shared) (H : Hp) (C : Addr) (cl : List (Str × Addr)) (fp : List Addr), PTs (X.blk s H scope (compEnvC scope cl C X.env) fp) ifs (tT false K mg P t))
    (he : ∀ (s : Shared) (H : Hp) (C : Addr) (cl : List (Str × Addr)) (fp : List Addr), PE (X.blk s H scope (compEnvC scope cl C X.env) fp) elt (tE false K mg P te)) (hs : ∀ x, foldedSetIterable iter X.env x = pure x := by intro _; rfl) :
    PE X (.ListComp elt [⟨tg, iter, ifs, 0⟩] scope pos) (tE false K mg P (cComp (own.map (·.2)) f g t te)) := PE.weak (pe_lc hc hN hi ok hg ht he hs) fun σ H Q h => comp_te h
theorem g_setLc {i : Nat} {y : Str} {py : Pos} {elt tg iter : Expr} {ifs : List Expr} {scope : Scope} {own : List (Str × Nat)} {f : M (List PV)} {g : Tg} {t : M Bool} {te : M PV} (hc : X.calm = true) (hN : X.N.Nodup) (hy : X.N[i]? = some y) (hyl : X.env.scope.names.lookup y = some .local)
    (hsw : swapsWith (.ListComp elt [⟨tg, iter, ifs, 0⟩] scope p2) (some (.Name y py)) pos.line X.env = pure true) (hi : PI X tg iter (tI K mg P f)) (ok : BlkOk X.N X.env.scope scope own)
    (hg : ∀ (s : Shared) (H : Hp) (C : Addr) (cl : List (Str × Addr)) (fp : List Addr), PG (X.blk s H scope (compEnvC scope cl C X.env) fp) tg (tG K mg P (TW (own.map (·.2))) g)) (ht : ∀ (s : Shared) (H : Hp) (C : Addr) (cl : List (Str × Addr)) (fp : List Addr), PTs (X.blk s H scope (compEnvC scope cl C X.env) fp) ifs (tT false K mg P t))
    (he : ∀ (s : Shared) (H : Hp) (C : Addr) (cl : List (Str × Addr)) (fp : List Addr), PE (X.blk s H scope (compEnvC scope cl C X.env) fp) elt (tE false K mg P te)) (hs : ∀ x, foldedSetIterable iter X.env x = pure x := by intro _; rfl) :
    PS X (.Assign [.Name y py] (.ListComp elt [⟨tg, iter, ifs, 0⟩] scope p2) pos) (tS K mg P (sAsg (gNm i) (cComp (own.map (·.2)) f g t te))) := by
  refine PS.weak (ps_setLc hc hN hy hyl hsw hi ok hg ht he hs) fun D σ H h => ?_
  obtain ⟨ρ, B, F, o, R, e, k⟩ := h
  obtain ⟨⟨v, ρ1⟩, z1, e⟩ := bind_some e
  obtain ⟨ρ2, z2, e⟩ := bind_some e
  cases e
  refine comp_te ⟨ρ, B, F, v, ρ1, R, z1, fun x H1 B1 G1 F1 p => ?_⟩
  obtain ⟨F', p', _⟩ := put_ok p.rv p.sl p.nd z2
  exact k _ _ _ _ ⟨p'.sl, p'.nd, p.st.trans p'.st⟩
end
end GX

/-! GX: the defs of the text, their calls. -/
namespace GX
open PySem PySem.Spec PyProof.Rows L2

abbrev Fn := List Slot → Option (PV × List Slot)
/-- what a call gives back to the caller: arguments that the caller owns -/
def outS : Slot → Slot
  | .ref v => .ref v
  | _ => .un
/-- a def's body, run at its arguments; n names -/
def fnRun (n m : Nat) (b : S) : Fn := fun as => if as.length = m then (b (as ++ List.replicate (n - m) .un)).bind fun o => match o with
  | .nx ρ => some (.non, (ρ.take m).map outS)
  | .rt v ρ => some (v, (ρ.take m).map outS)
  | _ => none else none
/-- the arguments leave the names -/
def giveL : List Opd → Rho → Option (List Slot × Rho)
  | [], ρ => some ([], ρ)
  | .tm v :: os, ρ => (giveL os ρ).bind fun r => some (.val v :: r.1, r.2)
  | .pk v :: os, ρ => none
  | .sl i :: os, ρ => (ρ[i]?).bind fun s => match s with
    | .un => none
    | .val v => if v.pure then (giveL os ρ).bind fun r => some (.val v :: r.1, r.2) else (giveL os (ρ.set i .un)).bind fun r => some (.ref v :: r.1, r.2)
    | .ref v => if v.pure then (giveL os ρ).bind fun r => some (.val v :: r.1, r.2) else (giveL os (ρ.set i .un)).bind fun r => some (.ref v :: r.1, r.2)
/-- .. and come back -/
def takeL : List Opd → List Slot → List Slot → Rho → Rho → Option Rho
  | [], _, _, _, ρ => some ρ
  | .sl i :: os, .ref _ :: as, .ref v :: ts, ρ0, ρ => (ρ0[i]?).bind fun s => match s with
    | .un => none
    | .val _ => takeL os as ts ρ0 (ρ.set i (.val v))
    | .ref _ => takeL os as ts ρ0 (ρ.set i (.ref v))
  | _ :: os, .val _ :: as, _ :: ts, ρ0, ρ => takeL os as ts ρ0 ρ
  | _, _, _, _, _ => none
def cFn (f : Fn) (dvs : List PV) (a : M (List Opd)) : M PV := fun ρ => (a ρ).bind fun z => (giveL z.1 z.2).bind fun g => (f (g.1 ++ dvs.map .val)).bind fun r => (takeL z.1 g.1 r.2 z.2 g.2).bind fun ρ2 => some (r.1, ρ2)

section
variable {q : Bool} {K : PySem.W.Frag} {mg : Str → Option Value} {P : List V} {H H' H1 H2 H0 : Hp} {B B' B1 B2 B0 : Addr → Prop} {x y : V} {v w r c : PV} {xs : List PV} {ys : List V} {F F' F1 F2 F0 G G1 G2 W : List Addr} {ρ ρ' ρ1 ρ2 ρ0 : Rho} {σ σ' σ1 σ2 : Sg} {X : Cx} {a b e : Expr} {pos p2 : Pos} {D : Ends} {o : Out}
section
variable (K mg)
/-- a def's promise -/
def spG (m : Nat) (f : Fn) : Sp := fun vs H Q _ => vs.length = m ∧ ∃ B as G v ts, RSs K mg H B as (vs.map some) vs G ∧ G.Nodup ∧ f as = some (v, ts) ∧
  ∀ x H' B' Gv G' σ', RV K mg H' B' v x Gv → RSs K mg H' B' ts σ' vs G' → (Gv ++ G').Nodup → Step H B G H' B' (Gv ++ G') → Q x H'
end
theorem Step.more (a : Step H B F H' B' F') (h : ∀ b ∈ F, b ∈ F2) : Step H B F2 H' B' F' := ⟨fun b hb => (a.own b hb).imp (h b) id, a.keep.mono h⟩
theorem RSs.uns : ∀ {n : Nat} {p : List V}, p.length = n → RSs K mg H B (List.replicate n .un) (List.replicate n none) p []
  | 0, [], _ => .nil
  | n + 1, p :: ps, h => by
    rw [List.replicate_succ, List.replicate_succ]
    exact .cons (F := []) (G := []) .un (RSs.uns (by simpa using h))
theorem RSs.app : ∀ {ρ ρ2 : Rho} {σ σ2 : Sg} {P P2 : List V} {F F2 : List Addr}, RSs K mg H B ρ σ P F → RSs K mg H B ρ2 σ2 P2 F2 → RSs K mg H B (ρ ++ ρ2) (σ ++ σ2) (P ++ P2) (F ++ F2)
  | _, _, _, _, _, _, _, _, .nil, s => s
  | _, _, _, _, _, _, _, _, .cons r t, s => by
    rw [List.append_assoc]
    exact .cons r (RSs.app t s)
/-- the parameters' slots behind the body -/
theorem RSs.outs : ∀ {m : Nat} {ρ : Rho} {σ : Sg} {P : List V} {F : List Addr}, RSs K mg H B ρ σ P F → ∃ G σ', RSs K mg H B ((ρ.take m).map outS) σ' (P.take m) G ∧ G.Sublist F
  | 0, _, _, _, F, _ => ⟨[], [], by simp; exact .nil, List.nil_sublist F⟩
  | m + 1, _, _, _, _, .nil => ⟨[], [], by simp; exact .nil, .slnil⟩
  | m + 1, _, _, _, _, .cons (F := F) (G := G) r t => by
    obtain ⟨G', σ', t', s⟩ := RSs.outs (m := m) t
    rw [List.take_succ_cons, List.take_succ_cons, List.map_cons]
    cases r with
    | un => exact ⟨[] ++ G', none :: σ', .cons .un t', List.Sublist.append (List.Sublist.refl []) s⟩
    | val r => exact ⟨[] ++ G', none :: σ', .cons .un t', List.Sublist.append (List.nil_sublist F) s⟩
    | ref r => exact ⟨F ++ G', _ :: σ', .cons (.ref r) t', List.Sublist.append (List.Sublist.refl F) s⟩
theorem give_ok : ∀ {os : List Opd} {ys : List V} {G : List Addr} {ρ : Rho} {F : List Addr} {as : List Slot} {ρ1 : Rho}, OVs K mg σ H B F0 os ys G → RSs K mg H B ρ σ P F → (G ++ F).Nodup → giveL os ρ = some (as, ρ1) →
    ∃ Ga F1, RSs K mg H B as (ys.map some) ys Ga ∧ RSs K mg H B ρ1 σ P F1 ∧ (Ga ++ F1).Nodup ∧ ∀ b ∈ Ga ++ F1, b ∈ G ++ F
  | [], _, _, ρ, F, as, ρ1, .nil, R, nd, e => by
    cases e
    exact ⟨[], F, .nil, R, nd, fun b hb => hb⟩
  | .tm v :: os, _, _, ρ, F, as, ρ1, .cons (x := x) (G := G1) (Gs := G2) h t, R, nd, e => by
    obtain ⟨⟨as', ρ2⟩, e1, e⟩ := bind_some e
    obtain ⟨rfl, rfl⟩ : as = .val v :: as' ∧ ρ1 = ρ2 := by cases e; exact ⟨rfl, rfl⟩
    obtain ⟨Ga, F1, i1, i2, i3, i4⟩ := give_ok t R (by rw [List.append_assoc] at nd; exact nodup_r nd) e1
    refine ⟨G1 ++ Ga, F1, .cons (.val h) i1, i2, ?_, fun b hb => ?_⟩
    · grind [List.nodup_append]
    · have := i4 b
      grind
  | .pk v :: os, _, _, ρ, F, as, ρ1, .cons h t, R, nd, e => nomatch e
  | .sl i :: os, _, _, ρ, F, as, ρ1, .cons (x := x) (Gs := G2) h t, R, nd, e => by
    obtain ⟨hx, rfl⟩ := h
    obtain ⟨s, e0, e⟩ := bind_some e
    obtain ⟨y, p, Fa, Gi, Fb, h1, hp, h2, h3, h4⟩ := R.at e0
    rw [hx] at h1
    cases h1
    subst h3
    have nd : (G2 ++ (Fa ++ Gi ++ Fb)).Nodup := nd
    obtain ⟨k1, _⟩ := h4 H B [] Keep.refl MutW.nil (fun _ _ h => nomatch h) (fun _ _ h => nomatch h)
    have whole : ∀ u, RV K mg H B u x Gi → u.pure = true → (giveL os ρ).bind (fun r => some (.val u :: r.1, r.2)) = some (as, ρ1) →
        ∃ Ga F1, RSs K mg H B as ((x :: _).map some) (x :: _) Ga ∧ RSs K mg H B ρ1 σ P F1 ∧ (Ga ++ F1).Nodup ∧ ∀ b ∈ Ga ++ F1, b ∈ [] ++ G2 ++ (Fa ++ Gi ++ Fb) := fun u ru hu e => by
      obtain ⟨⟨as', ρ2⟩, e1, e⟩ := bind_some e
      obtain ⟨rfl, rfl⟩ : as = .val u :: as' ∧ ρ1 = ρ2 := by cases e; exact ⟨rfl, rfl⟩
      obtain rfl := ru.pure hu
      obtain ⟨Ga, F1, i1, i2, i3, i4⟩ := give_ok t R nd e1
      exact ⟨[] ++ Ga, F1, .cons (.val ru) i1, i2, i3, i4⟩
    have part : ∀ u, RV K mg H B u x Gi → (giveL os (ρ.set i .un)).bind (fun r => some (.ref u :: r.1, r.2)) = some (as, ρ1) →
        ∃ Ga F1, RSs K mg H B as ((x :: _).map some) (x :: _) Ga ∧ RSs K mg H B ρ1 σ P F1 ∧ (Ga ++ F1).Nodup ∧ ∀ b ∈ Ga ++ F1, b ∈ [] ++ G2 ++ (Fa ++ Gi ++ Fb) := fun u ru e => by
      obtain ⟨⟨as', ρ2⟩, e1, e⟩ := bind_some e
      obtain ⟨rfl, rfl⟩ : as = .ref u :: as' ∧ ρ1 = ρ2 := by cases e; exact ⟨rfl, rfl⟩
      obtain ⟨Ga, F1, i1, i2, i3, i4⟩ := give_ok t (k1 .un [] .un) (by grind [List.nodup_append]) e1
      refine ⟨Gi ++ Ga, F1, .cons (.ref ru) i1, i2, ?_, fun b hb => ?_⟩
      · grind [List.nodup_append]
      · have := i4 b
        grind
    cases s with
    | un => cases e
    | val u =>
      cases h2 with
      | val r =>
        by_cases hu : u.pure = true
        · exact whole u r hu (by simpa [hu] using e)
        · exact part u r (by simpa [hu] using e)
    | ref u =>
      cases h2 with
      | ref r =>
        by_cases hu : u.pure = true
        · exact whole u r hu (by simpa [hu] using e)
        · exact part u r (by simpa [hu] using e)
theorem RSs.rel_at (R : RSs K mg H B ρ σ P F) {i : Nat} {s : Slot} (e : ρ[i]? = some s) : ∃ y p G, σ[i]? = some y ∧ P[i]? = some p ∧ RSl K mg H B s y p G := by
  obtain ⟨y, p, Fa, Gi, Fb, h1, hp, h2, _⟩ := R.at e
  exact ⟨y, p, Gi, h1, hp, h2⟩
theorem take_ok (R0 : RSs K mg H0 B0 ρ0 σ P F0) : ∀ {os : List Opd} {ys zs : List V} {G : List Addr} {as ts : List Slot} {σo : Sg} {Go : List Addr} {ρ : Rho} {F : List Addr} {ρ2 : Rho}, OVs K mg σ H1 B1 F1 os ys G → RSs K mg H B ts σo (ys ++ zs) Go → RSs K mg H B ρ σ P F → (Go ++ F).Nodup → takeL os as ts ρ0 ρ = some ρ2 →
    ∃ F2, RSs K mg H B ρ2 σ P F2 ∧ F2.Nodup ∧ ∀ b ∈ F2, b ∈ Go ++ F
  | [], _, zs, _, as, ts, σo, Go, ρ, F, ρ2, .nil, T, R, nd, e => by
    have e : some ρ = some ρ2 := by simpa [takeL] using e
    cases e
    exact ⟨F, R, nodup_r nd, fun b hb => List.mem_append_right _ hb⟩
  | op :: os, _, zs, _, [], ts, σo, Go, ρ, F, ρ2, .cons h t, T, R, nd, e => by
    cases op <;> simp [takeL] at e
  | op :: os, _, zs, _, a :: as, [], σo, Go, ρ, F, ρ2, .cons h t, T, R, nd, e => by cases T
  | op :: os, _, zs, _, .un :: as, s :: ts, σo, Go, ρ, F, ρ2, .cons h t, T, R, nd, e => by
    cases op <;> simp [takeL] at e
  | op :: os, _, zs, _, .val u :: as, s :: ts, σo, Go, ρ, F, ρ2, .cons (x := x0) (xs := xs0) h t, TT, R, nd, e => by
    rw [List.cons_append] at TT
    cases TT with
    | @cons _ _ _ _ _ _ Fa Fb r T =>
    have e : takeL os as ts ρ0 ρ = some ρ2 := by cases op <;> simpa [takeL] using e
    obtain ⟨F2, i1, i2, i3⟩ := take_ok R0 t T R (by rw [List.append_assoc] at nd; exact nodup_r nd) e
    exact ⟨F2, i1, i2, fun b hb => by have := i3 b hb; grind⟩
  | op :: os, _, zs, _, .ref u :: as, s :: ts, σo, Go, ρ, F, ρ2, .cons (x := x0) (xs := xs0) h t, TT, R, nd, e => by
    rw [List.cons_append] at TT
    cases TT with
    | @cons _ _ _ _ _ _ Fa Fb r T =>
    cases op with
    | tm v => simp [takeL] at e
    | pk v => simp [takeL] at e
    | sl i =>
      cases s with
      | un => simp [takeL] at e
      | val v => simp [takeL] at e
      | ref v =>
        rw [takeL] at e
        obtain ⟨s0, z0, e⟩ := bind_some e
        obtain ⟨hx, _⟩ := h
        obtain ⟨y0, p0, g0, c1, c2, c3⟩ := R0.rel_at z0
        rw [hx] at c1
        cases c1
        cases r with
        | ref r =>
        have hl : i < ρ.length := by
          have l1 := R.lens.1
          have l2 := R0.lens.1
          have := (List.getElem?_eq_some_iff.mp z0).1
          omega
        obtain ⟨y, p, Fc, Gi, Fd, h1, hp, h2, h3, h4⟩ := R.at (List.getElem?_eq_getElem hl)
        rw [hx] at h1
        cases h1
        subst h3
        obtain ⟨k1, _⟩ := h4 H B [] Keep.refl MutW.nil (fun _ _ h => nomatch h) (fun _ _ h => nomatch h)
        have go : ∀ s', RSl K mg H B s' (some _) p Fa → takeL os as ts ρ0 (ρ.set i s') = some ρ2 → ∃ F2, RSs K mg H B ρ2 σ P F2 ∧ F2.Nodup ∧ ∀ b ∈ F2, b ∈ (Fa ++ Fb) ++ (Fc ++ Gi ++ Fd) := fun s' rs e => by
          obtain ⟨F2, i1, i2, i3⟩ := take_ok R0 t T (k1 s' Fa rs) (by grind [List.nodup_append]) e
          exact ⟨F2, i1, i2, fun b hb => by have := i3 b hb; grind⟩
        cases s0 with
        | un => cases e
        | val w => exact go (.val v) (.val r) e
        | ref w =>
          cases c3 with
          | ref r0 =>
            rw [hp] at c2
            cases c2
            exact go (.ref v) (.ref r) e
theorem rss_vals0 : ∀ {dpv : List PV} {dvs : List V} {F : List Addr}, RVs K mg H B dpv dvs F → RSs K mg H B (dpv.map .val) (dvs.map some) dvs F
  | _, _, _, .nil => .nil
  | _, _, _, .cons r t => .cons (.val r) (rss_vals0 t)
theorem rss_vals {dpv : List PV} {dvs : List V} (r : RVs K mg H B dpv dvs []) : RSs K mg H B (dpv.map .val) (dvs.map some) dvs [] := rss_vals0 r
theorem fn_te {m : Nat} {f : Fn} {dpv : List PV} {dvs : List V} {a : M (List Opd)} {H : Hp} {Q : VK} {E : XK} (hd : ∀ H B, RVs K mg H B dpv dvs []) (hl : ∀ as r, f as = some r → as.length = m) (h : tE false K mg P (cFn f dpv a) σ H Q) : tCall (spG K mg m f) dvs E (tA false K mg P a) σ H Q := by
  obtain ⟨ρ, B, F, v, ρ', R, e1, k⟩ := h
  obtain ⟨⟨os, ρ1⟩, z1, e1⟩ := bind_some e1
  obtain ⟨⟨as, ρ2⟩, z2, e1⟩ := bind_some e1
  obtain ⟨⟨u, ts⟩, z3, e1⟩ := bind_some e1
  obtain ⟨ρ3, z4, e1⟩ := bind_some e1
  obtain ⟨rfl, rfl⟩ : v = u ∧ ρ' = ρ3 := by cases e1; exact ⟨rfl, rfl⟩
  refine ⟨ρ, B, F, os, ρ1, R, z1, fun xs H1 B1 G1 F1 p => ?_⟩
  obtain ⟨Ga, F2, i1, i2, i3, i4⟩ := give_ok p.ov p.sl p.nd z2
  have rs := i1.app (rss_vals (hd H1 B1))
  rw [List.append_nil, ← List.map_append] at rs
  have len := hl _ _ z3
  refine ⟨by rw [← rs.lens.2]; exact len, B1, _, Ga, v, ts, rs, nodup_l i3, z3, fun x H' B' Gv G' σ' rv T nd st => ?_⟩
  have sl2 := i2.keep st.keep rs.mut fun b hb z => nodup_ne i3 b z hb
  have nd2 : (F2 ++ (Gv ++ G')).Nodup := by
    refine nodup_beside (F1 := Ga) ?_ i2.mut nd st
    grind [List.nodup_append]
  obtain ⟨F3, j1, j2, j3⟩ := take_ok p.sl p.ov T sl2 (by grind [List.nodup_append]) z4
  refine k x H' B' Gv F3 ⟨rv, j1, ?_, ?_, fun h => nomatch h⟩
  · grind [List.nodup_append]
  · have s2 := (st.beside F2).more (F2 := G1 ++ F1) fun b hb => i4 b (by grind)
    refine (p.st.trans s2).less fun b hb => ?_
    have := j3 b
    grind
theorem fnRun_len {n m : Nat} {b : S} {as : List Slot} {r : PV × List Slot} (h : fnRun n m b as = some r) : as.length = m := by
  unfold fnRun at h
  split at h
  · assumption
  · cases h
/-- a def, from its body -/
theorem body_ok {N : List Str} {m : Nat} {b : S} {body : List Stmt} (hm : m ≤ N.length) (hb : ∀ P, PSs X body (tS K mg P b)) {vs : List V} {Q : VK} {E : XK} (h : spG K mg m (fnRun N.length m b) vs H Q E) :
    ∃ t, PSs X body t ∧ t { nx := fun _ H' => Q .non H', rt := Q } (L2.start N vs) H := by
  obtain ⟨hl, B, as, G, v, ts, rs, nd, e, k⟩ := h
  refine ⟨_, hb (vs ++ List.replicate (N.length - m) .non), ?_⟩
  unfold fnRun at e
  split at e
  · rename_i ha
    obtain ⟨o, z, e⟩ := bind_some e
    have R : RSs K mg H B (as ++ List.replicate (N.length - m) .un) (L2.start N vs) (vs ++ List.replicate (N.length - m) .non) (G ++ []) := by
      unfold L2.start
      rw [hl]
      exact rs.app (RSs.uns (by simp))
    rw [List.append_nil] at R
    have tk : (vs ++ List.replicate (N.length - m) V.non).take m = vs := by
      rw [List.take_left' hl]
    refine ⟨_, B, G, o, ⟨R, nd⟩, z, ?_⟩
    cases o with
    | nx ρ' =>
      obtain ⟨rfl, rfl⟩ : v = .non ∧ ts = (ρ'.take m).map outS := by cases e; exact ⟨rfl, rfl⟩
      intro σ' H' B' F' p
      obtain ⟨G', σ'', T, s⟩ := p.sl.outs (m := m)
      rw [tk] at T
      exact k .non H' B' [] G' σ'' .non T (p.nd.sublist s) (p.st.less fun b hb => s.subset hb)
    | rt u ρ' =>
      obtain ⟨rfl, rfl⟩ : v = u ∧ ts = (ρ'.take m).map outS := by cases e; exact ⟨rfl, rfl⟩
      intro x σ' H' B' Gv F' p
      obtain ⟨G', σ'', T, s⟩ := p.sl.outs (m := m)
      rw [tk] at T
      exact k x H' B' Gv G' σ'' p.rv T (p.nd.sublist (List.Sublist.append (List.Sublist.refl Gv) s)) (p.st.less fun b hb => (List.Sublist.append (List.Sublist.refl Gv) s).subset hb)
    | bk ρ' => cases e
    | ct ρ' => cases e
  · cases e

/-! ### promises of defs that are never called from within a repr -/
structure GOk (Pr : Program) (w : World) (K : PySem.W.Frag) (mg : Str → Option Value) (base : Heap) (CX : CXT) (k : Nat) (f : Addr) (fd : FuncData) (ps : List Str) (sp : Sp) : Prop where
  par : ∀ vs H Q E, sp vs H Q E → vs.length = ps.length
  go : ∀ (A : Around) (fs : List Env) (s : Shared) (H : Hp) (ar : Args) (us : List Value) (vs : List V) (Q : VK) (E : XK), Room k A → A.guards = some [] → Env0 Pr w K mg base A fs s H → BindsTo s fd ar (ps.zip us) → Vals vs us → sp vs H Q E →
    codeAny (model Pr w) A (.call (.ref f) ar) (CR CX fs Pr w H s Q E) s
theorem GOk.up {Pr : Program} {w : World} {base : Heap} {CX : CXT} {j k : Nat} {f : Addr} {fd : FuncData} {ps : List Str} {sp : Sp} (F : GOk Pr w K mg base CX j f fd ps sp) (h : j ≤ k) : GOk Pr w K mg base CX k f fd ps sp :=
  ⟨F.par, fun A fs s H ar us vs Q E r g e b v z => F.go A fs s H ar us vs Q E (r.mono h) g e b v z⟩
theorem gok_of {CX : CXT} {Pr : Program} {w : World} {base : Heap} {k : Nat} {f : Addr} {nm ql : Str} {pa : Arguments} {bd : List Stmt} {sc : Scope} {d1 d2 d3 d4 d5 d6 cc : Value} {oa ob : Option Addr} {sl : Array (Option Value)} {N ps : List Str} {sp : Sp}
    (lk : K.lookup f = some ⟨cc, ob, .func (PySem.W.fnOf nm ql pa bd sc d1 d2 d3 d4 oa d5 d6), sl⟩) (hcd : PySem.W.codeIn K d5 ql = true) (S : FnScope N ps sc) (par : ∀ vs H Q E, sp vs H Q E → vs.length = ps.length)
    (hb : ∀ (A : Around) (fs : List Env) (s : Shared) (H : Hp) (vs : List V) (Q : VK) (E : XK), Room k (A.deeper (envOfC ql sc s.heap.objs.size f d5)) → A.guards = some [] → sp vs H Q E →
      ∃ t, PSs (cxOf CX Pr w K mg base N ql sc f d5 A fs s H E) bd t ∧ t { nx := fun _ H' => Q .non H', rt := Q } (L2.start N vs) H) : GOk Pr w K mg base CX (k + 1) f (PySem.W.fnOf nm ql pa bd sc d1 d2 d3 d4 oa d5 d6) ps sp := by
  refine ⟨par, fun A fs s H ar us vs Q E hr hgd e0 hbi rv hsp => ?_⟩
  have KX : K.In s.heap := e0.mod.kin.keeps fun b o z => (e0.bs b o z).1
  have lm : s.heap.NoLimit := e0.mod.nolimit.keeps fun b o z => (e0.bs b o z).1
  have kinds : ∀ y ∈ ps.zip us, sc.names.lookup y.1 = some .local ∨ (sc.names.lookup y.1 = some .cell ∧ ((cellsFrom (s.heap.objs.size + 1) sc.names []).lookup y.1).isSome = true) := fun ⟨n, v⟩ hy =>
    (S.par n (List.of_mem_zip hy).1).imp id fun q => ⟨q, PySem.W.cellsFrom_some _ _ _ (.inl q)⟩
  refine codeAny_call_function hr.depth (KX _ _ lk) rfl S.co S.gen rfl (PySem.W.codeRec_of KX hcd) (hbi _ _ _ _ (wpAny_newFunctionEnv_cells S.kind kinds fun env he s1 x => ?_))
  subst he
  refine ⟨lm.keeps x.toInCall.keep, codeAny_func ?_⟩
  obtain ⟨t, ht, hq⟩ := hb A fs s H vs Q E (hr.deeper _) hgd hsp
  have J0 : Inv (cxOf CX Pr w K mg base N ql sc f d5 A fs s H E) [] (L2.start N vs) H s1 := inv_start S hr.hd e0 (par _ _ _ _ hsp) rv x
  refine wpAny_mono (ht.run [] s1 _ H _ J0 hq) (fun fl s2 hs => ?_) fun _ _ hs => hs
  cases fl with
  | ret u => obtain ⟨v, σ', H', J, rv, q⟩ := hs; exact ⟨v, H', J.os, J.bare, J.base, J.hok, rv, q⟩
  | next => obtain ⟨σ', H', J, q⟩ := hs; exact ⟨.non, H', J.os, J.bare, J.base, J.hok, rfl, q⟩
  | brk => obtain ⟨_, _, _, q⟩ := hs; exact q.elim
  | cont => obtain ⟨_, _, _, q⟩ := hs; exact q.elim
theorem fn_ok {Pr : Program} {w : World} {base : Heap} {x qual : Str} {st : Stmt} {f : Addr} {fd : FuncData} {N ps : List Str} {k : Nat} {b : S} (F : Fun K x qual st f fd) (S : FnScope N ps (defScope st)) (hm : ps.length ≤ N.length)
    (hb : ∀ (cdv : Value) (A : Around) (outer : List Env) (s : Shared) (H : Hp) (E : XK) (P : List V), Room k (A.deeper (envOfC qual (defScope st) s.heap.objs.size f cdv)) → A.guards = some [] →
      PSs (cxOf CX0 Pr w K mg base N qual (defScope st) f cdv A outer s H E).nox (defBody st) (tS K mg P b)) : GOk Pr w K mg base CX0 (k + 1) f fd ps (spG K mg ps.length (fnRun N.length ps.length b)) := by
  obtain ⟨cc, ob, d2, d3, d4, oa, d5, d6, sl, rfl, lk, hcd⟩ := F.ex
  refine gok_of lk hcd S (fun _ _ _ _ h => h.1) fun A fs s H vs Q E hr hg h => ?_
  obtain ⟨t, h1, h2⟩ := body_ok hm (fun P => hb d5 A fs s H E P hr hg) h
  exact ⟨t, h1.nox, h2⟩
theorem fn_okD {Pr : Program} {w : World} {base : Heap} {x qual : Str} {params : Arguments} {body : List Stmt} {scope : Scope} {dvs : List V} {kws : List (Str × V)} {f : Addr} {fd : FuncData} {N ps : List Str} {k : Nat} {b : S} (F : FunD K x qual params body scope dvs kws f fd) (S : FnScope N ps scope) (hm : ps.length ≤ N.length)
    (hb : ∀ (cdv : Value) (A : Around) (outer : List Env) (s : Shared) (H : Hp) (E : XK) (P : List V), Room k (A.deeper (envOfC qual scope s.heap.objs.size f cdv)) → A.guards = some [] →
      PSs (cxOf CX0 Pr w K mg base N qual scope f cdv A outer s H E).nox body (tS K mg P b)) : GOk Pr w K mg base CX0 (k + 1) f fd ps (spG K mg ps.length (fnRun N.length ps.length b)) := by
  obtain ⟨cc, ob, d1, d2, d3, d4, oa, d5, d6, sl, rfl, lk, hcd, _, _⟩ := F.ex
  refine gok_of lk hcd S (fun _ _ _ _ h => h.1) fun A fs s H vs Q E hr hg h => ?_
  obtain ⟨t, h1, h2⟩ := body_ok hm (fun P => hb d5 A fs s H E P hr hg) h
  exact ⟨t, h1.nox, h2⟩
theorem go_fn {CX : CXT} {k : Nat} {f : Addr} {fd : FuncData} {ps : List Str} {sp : Sp} {dvs : List V} {ds : List Value} {E : XK} {pins : List (Addr × Obj)} {s : Shared} {Q : VK} {us : List Value} {vs : List V} (F : GOk X.prog X.w X.K X.mg X.base CX k f fd ps sp) (hr : Room k X.A) (hgd : X.A.guards = some []) (hb : Binds X.K fd ps ds)
    (hd : Vals dvs ds) (hx : Passes CX X E) (I : Inv X pins σ H s) (r : Vals vs us) (h : sp (vs ++ dvs) H Q E) : wpAny (model X.prog X.w) X.A (call (.ref f) us) (EP X pins σ Q) X.xe s := by
  have r2 := r.append hd
  refine wpAny_call (codeAny_mono (F.go X.A X.stack s H ⟨us, []⟩ (us ++ ds) (vs ++ dvs) Q E hr hgd I.env0 (hb s us I.kIn ?_) r2 h) fun rs s2 hq => ?_)
  · rw [← r2.length]
    exact F.par _ _ _ _ h
  · match rs, hq with
    | .ok (.ret u), hq => exact I.after hq
    | .error e, hq => exact hx pins σ H s e s2 I hq
theorem ge_fn {CX : CXT} {k j m : Nat} {f : Addr} {fd : FuncData} {ps : List Str} {fs : Fn} {dpv : List PV} {dvs : List V} {ds : List Value} {E : XK} {x : Str} {p : Pos} {es : List Expr} {fa : M (List Opd)} (F : GOk X.prog X.w X.K X.mg X.base CX j f fd ps (spG K mg m fs)) (hr : Room k X.A) (hgd : X.A.guards = some []) (hj : j ≤ k) (hg : Gl X x) (hm : X.mg x = some (.ref f)) (hk : PySem.W.keepIn X.K (.ref f) = true) (hb : Binds X.K fd ps ds) (hd : Vals dvs ds) (hx : Passes CX X E)
    (hv : ∀ H B, RVs K mg H B dpv dvs []) (hl : ∀ as r, fs as = some r → as.length = m)
    (ha : PA X (e :: es) (tA false K mg P fa)) (hdb : (x == ("__debug__" : Str)) = false := by decide) (he : starEach (e :: es) X.env = (false, eval e X.env) :: starEach es X.env := by rfl) (hpl : (backTo pos (starEach es X.env)).any (·.1) = false := by rfl) :
    PE X (.Call (.Name x p) (e :: es) [] pos) (tE false K mg P (cFn fs dpv fa)) := ⟨fun pins s σ H Q I h => by
  refine wpAny_Call_Name_kw (ld_glob I hg hm (PySem.W.callWith_K (h₀ := X.base) I.ok.mod.kin hk ?_ he hpl) hdb)
  exact thn (ha.run pos pins s σ H _ I (fn_te (E := E) hv hl h)) fun us s1 ⟨vs, H1, I1, r, q⟩ => ⟨I1.kIn, go_fn (F.up hj) hr hgd hb hd hx I1 r q⟩⟩
theorem ge_fn0 {CX : CXT} {k j m : Nat} {f : Addr} {fd : FuncData} {ps : List Str} {fs : Fn} {dpv : List PV} {dvs : List V} {ds : List Value} {E : XK} {x : Str} {p : Pos} (F : GOk X.prog X.w X.K X.mg X.base CX j f fd ps (spG K mg m fs)) (hr : Room k X.A) (hgd : X.A.guards = some []) (hj : j ≤ k) (hg : Gl X x) (hm : X.mg x = some (.ref f)) (hk : PySem.W.keepIn X.K (.ref f) = true) (hb : Binds X.K fd ps ds) (hd : Vals dvs ds) (hx : Passes CX X E)
    (hv : ∀ H B, RVs K mg H B dpv dvs []) (hl : ∀ as r, fs as = some r → as.length = m) (hdb : (x == ("__debug__" : Str)) = false := by decide) :
    PE X (.Call (.Name x p) [] [] pos) (tE false K mg P (cFn fs dpv oNil)) := ⟨fun pins s σ H Q I h => by
  obtain ⟨ρ2, B2, F2, os, ρ3, R2, z, g⟩ := fn_te (E := E) hv hl h
  cases z
  exact wpAny_Call_Name_kw (ld_glob I hg hm (PySem.W.callWith_K0 I.kIn hk (go_fn (us := []) (F.up hj) hr hgd hb hd hx I .nil (g [] H B2 [] F2 ⟨.nil, R2.slots, R2.nd, Step.refl, fun h => nomatch h⟩))) hdb)⟩
end
end GX

/-! GX: sorted(set(..)) of ints. -/
namespace GX
open PySem PySem.Spec PyProof.Rows L2

/-! ### the plain side -/
def insI (k : Int) : List Int → List Int
  | [] => [k]
  | x :: r => if k < x then k :: x :: r else if k = x then x :: r else x :: insI k r
/-- the members in order -/
def sset (ns : List Int) : List Int := ns.foldr insI []
theorem insI_mem {k j : Int} : ∀ {l : List Int}, j ∈ insI k l ↔ j = k ∨ j ∈ l
  | [] => by simp [insI]
  | x :: r => by
    unfold insI
    split
    · simp
    · split
      · rename_i h; subst h; simp
      · simp [insI_mem (l := r)]; constructor <;> intro h <;> (rcases h with h | h | h <;> simp [h])
theorem insI_lt {k : Int} : ∀ {l : List Int}, l.Pairwise (· < ·) → (insI k l).Pairwise (· < ·)
  | [], _ => by simp [insI]
  | x :: r, h => by
    obtain ⟨h1, h2⟩ := List.pairwise_cons.mp h
    unfold insI
    split
    · rename_i hk
      refine List.pairwise_cons.mpr ⟨fun y hy => ?_, h⟩
      rcases List.mem_cons.mp hy with e | hy
      · omega
      · have := h1 y hy; omega
    · split
      · exact h
      · refine List.pairwise_cons.mpr ⟨fun y hy => ?_, insI_lt h2⟩
        rcases insI_mem.mp hy with e | hy
        · omega
        · exact h1 y hy
theorem sset_lt : ∀ ns : List Int, (sset ns).Pairwise (· < ·)
  | [] => by simp [sset]
  | k :: ns => insI_lt (sset_lt ns)
theorem sset_mem {j : Int} : ∀ {ns : List Int}, j ∈ sset ns ↔ j ∈ ns
  | [] => by simp [sset]
  | k :: ns => by
    show j ∈ insI k (sset ns) ↔ _
    rw [insI_mem, sset_mem, List.mem_cons]
theorem eq_of_lt : ∀ {a b : List Int}, a.Pairwise (· < ·) → b.Pairwise (· < ·) → (∀ j, j ∈ a ↔ j ∈ b) → a = b
  | [], [], _, _, _ => rfl
  | [], y :: b, _, _, h => absurd ((h y).mpr (by simp)) (by simp)
  | x :: a, [], _, _, h => absurd ((h x).mp (by simp)) (by simp)
  | x :: a, y :: b, h1, h2, h => by
    obtain ⟨p1, p2⟩ := List.pairwise_cons.mp h1
    obtain ⟨q1, q2⟩ := List.pairwise_cons.mp h2
    have e : x = y := by
      have a1 := (h x).mp (by simp)
      have a2 := (h y).mpr (by simp)
      rcases List.mem_cons.mp a1 with e | a1
      · exact e
      · rcases List.mem_cons.mp a2 with e | a2
        · exact e.symm
        · have := p1 y a2
          have := q1 x a1
          omega
    subst e
    rw [eq_of_lt p2 q2 fun j => ?_]
    have hj := h j
    simp only [List.mem_cons] at hj
    constructor
    · intro ha
      have := p1 j ha
      rcases hj.mp (.inr ha) with e | hb
      · omega
      · exact hb
    · intro hb
      have := q1 j hb
      rcases hj.mpr (.inr hb) with e | ha
      · omega
      · exact ha

/-! ### set(l) of a list of ints -/
section
variable {P0 : Program} {w : World} {A : Around} {E : Value → Shared → Prop} {s : Shared}
abbrev sob (w : World) : Obj := { cls := .type "set", dict := none, data := .set #[] 0 (.fresh 0 0 (!w.params.followText "set-order")) }
set_option maxRecDepth 100000 in
set_option maxHeartbeats 3200000 in
theorem call_set_lstI {lo : Addr} {arr : Array Value} (ks : List Int) {Q : Value → Shared → Prop} (hh : A.handled = none) (hl : s.heap.IsList lo arr) (hit : IntsAre arr.toList ks) (hb : ks.length + 1 < scanBound)
    (h : ∀ (g1 : Heap) (tk c : Nat), SetR w g1 s.heap.objs.size (fun j => decide (j ∈ ks)) c → c ≤ ks.length → (∀ b o, s.heap.get? b = some o → g1.get? b = some o) → Q (.ref s.heap.objs.size) { s with heap := g1, toks := tk }) :
    wpAny (model P0 w) A (call (.type "set") [.ref lo]) Q E s := by
  have hsz0 : arr.size = ks.length := by
    have q := IntsAre.length hit
    rwa [Array.length_toList] at q
  obtain ⟨c0, tl0, hmro⟩ := F.called_set.mro
  have hmade := F.called_set.made; have hsub := F.called_set.sub; have hn1 := F.called_set.notType; have hn2 := F.called_set.canCreate; have hct := F.typeCall_set_1 (.ref lo)
  refine wpAny_call (codeAny_of_tree (show wpAny _ _ (callAny (.type "set") _) _ _ _ from wpAny_pure ⟨Code.quiet_builtin _ (by decide +kernel), codeAny_builtin F.entry_type_call ?_⟩))
  rw [Around.under_plain (weight_type_call_type "set" [.ref lo] []) rfl]
  repeat (any_goals (first | assumption | wp_step))
  refine codeAny_mono (code_set_led1 (.ref lo) (E := E) (Q₁ := fun ob t1 => ob = .ref s.heap.objs.size ∧ t1 = { s with heap := s.heap.push (sob w) }) ⟨rfl, rfl⟩) fun r t1 hr => ?_
  match r, hr with
  | .error e, hr => exact hr
  | .ok (.next), hr => exact hr.elim
  | .ok (.brk), hr => exact hr.elim
  | .ok (.cont), hr => exact hr.elim
  | .ok (.ret ob), hr =>
      obtain ⟨rfl, rfl⟩ := hr
      have hS0 : (s.heap.push (sob w)).get? s.heap.objs.size = some (sob w) := Heap.get?_push_size _ rfl
      have hT : Shared.TypeIs { s with heap := s.heap.push (sob w) } (.ref s.heap.objs.size) "set" := ⟨_, hS0, rfl⟩
      have hli := F.called_set.init.lookup; have hbi := F.called_set.init.bind (.ref s.heap.objs.size)
      repeat (any_goals (first | assumption | wp_step))
      refine codeAny_mono (codeAny_call_builtin (R := wants (fun r t2 => r = .none ∧ ∃ g1 tk c, t2 = { s with heap := g1, toks := tk } ∧ SetR w g1 s.heap.objs.size (fun j => decide (j ∈ ks)) c ∧ c ≤ ks.length ∧
          (∀ b o, s.heap.get? b = some o → g1.get? b = some o)) E) F.called_set.init.plain F.entry_set_init (check_set_init_1 hT ?_)) fun r2 t2 hr2 => ?_
      · obtain ⟨ol, hol, hcl, nl, hdl⟩ := hl
        obtain ⟨ocls, odict, odata, oslots⟩ := ol
        simp only at hcl hdl
        subst hcl; subst hdl
        have hol1 : (s.heap.push (sob w)).get? lo = some { cls := .type "list", dict := odict, data := .seq arr nl, slots := oslots } := Heap.get?_push_of_some _ hol
        have hs1 := F.sub_list_set; have hs2 := F.sub_list_frozenset
        have hne : (Value.type "list" == Value.type "dict") = false := by decide
        have hl1 : (s.heap.push (sob w)).IsList lo arr := ⟨_, hol1, rfl, nl, rfl⟩
        unfold Builtin.«set.__init__» noKeywords Builtin.Frozenset.updateFrom
        generalize hPI : pyIter = PI
        wp_walk
        subst hPI
        refine wpAny_pyIter_list hl1 (wpAny_bind (wpAny_runValue ?_))
        have hlS : lo < s.heap.objs.size := Heap.lt_size hol
        have hh3 : A.in1.in1.in1.handled = none := by simp [hh]
        have hneI : lo ≠ (s.heap.push (sob w)).objs.size := by rw [Heap.size_push]; exact Nat.ne_of_lt (Nat.lt_succ_of_lt hlS)
        have hSf : s.heap.objs.size ∉ [(s.heap.push (sob w)).objs.size, lo] := by
          rw [Heap.size_push]; simp only [List.mem_cons, List.not_mem_nil, or_false, not_or]
          exact ⟨Nat.ne_of_lt (Nat.lt_succ_self _), Nat.ne_of_gt hlS⟩
        have hval : ∀ (i : Nat) (v : Value), arr[i]? = some v → ∃ k t, ks[i]? = some k ∧ v = .int k t := fun i v hv => by
          have hi : i < ks.length := by rw [← hsz0]; exact (Array.getElem?_eq_some_iff.mp hv).1
          obtain ⟨t, e⟩ := PyProof.Rows.IntsAre.int_at hit i v ((Array.getElem?_toList ..).trans hv)
          exact ⟨ks[i], t, List.getElem?_eq_getElem hi, by rw [e, List.getD_eq_getElem?_getD, List.getElem?_eq_getElem hi] <;> rfl⟩
        refine set_update_ints ((Walks.list hh3 _ lo hneI arr).toS) s.heap.objs.size hSf ks hsz0 hb hval (arr.size - 0) 0 _ (by omega) (Nat.zero_le _) ⟨⟨_, Heap.get?_push_size _ rfl, rfl, rfl⟩, (hl1.push _)⟩ ?hS0 ?hR
        case hS0 => exact ⟨0, Nat.le_refl 0, setR_new_at (Heap.get?_push_of_some _ hS0)⟩
        case hR =>
          intro t3 c3 hm hc3 hS3
          obtain ⟨g1, g2, d3, tk3, os3⟩ := t3
          obtain rfl : g2 = s.gens := hm.gens
          obtain rfl : d3 = s.drawn := hm.drawn
          obtain rfl : os3 = s.os := hm.os
          show wpAny _ _ _ _ _ _
          refine wpAny_pure ?_
          show wpAny _ _ (ret Value.none) _ _ _
          rw [hsz0] at hc3
          refine wpAny_pure ⟨rfl, g1, tk3, c3, rfl, hS3, hc3, fun b o e => hm.heap b o ?_ (Heap.get?_push_of_some _ (Heap.get?_push_of_some _ e))⟩
          have hb0 : b < s.heap.objs.size := Heap.lt_size e
          simp only [List.mem_cons, List.not_mem_nil, or_false, not_or, Heap.size_push]
          exact ⟨Nat.ne_of_lt hb0, Nat.ne_of_lt (Nat.lt_succ_of_lt hb0)⟩
      · match r2, hr2 with
        | .error e, hr2 => exact hr2
        | .ok (.next), hr2 => exact hr2.elim
        | .ok (.brk), hr2 => exact hr2.elim
        | .ok (.cont), hr2 => exact hr2.elim
        | .ok (.ret r), hr2 =>
            obtain ⟨rfl, g1, tk, c3, rfl, hS3, hc3, hk3⟩ := hr2
            repeat (any_goals (first | assumption | wp_step))
            exact h _ _ _ hS3 hc3 hk3
end
end GX

/-! GX: sorted(set(..)), repr, assignments with an operator, names of the module. -/
namespace GX
open PySem PySem.Spec PyProof.Rows L2

section
variable {q : Bool} {K : PySem.W.Frag} {mg : Str → Option Value} {P : List V} {H H' H1 H2 H0 : Hp} {B B' B1 B2 B0 : Addr → Prop} {x y : V} {v w r c : PV} {xs : List PV} {ys : List V} {F F' F1 F2 F0 G G1 G2 W : List Addr} {ρ ρ' ρ1 ρ2 ρ0 : Rho} {σ σ' σ1 σ2 : Sg} {X : Cx} {a b e : Expr} {pos p2 : Pos} {D : Ends} {o : Out}
/-! ### sorted(set(..)) -/
def rSetI (K : PySem.W.Frag) (w : World) : List V → Hp → VK → Prop := fun xs H Q => ∃ (l : Addr) (ns : List Int), xs = [.ref l] ∧ (SqL K H l (ns.map V.int) ∨ SqT K H l (ns.map V.int)) ∧ ns.length < 64 ∧ ∀ p c, H p = none → c ≤ ns.length → Q (.ref p) (upd H p (SetO w p (fun j => decide (j ∈ ns)) c))
theorem ints_are : ∀ {ns : List Int} {us : List Value}, Vals (ns.map V.int) us → IntsAre us ns
  | [], _, h => by cases h; exact .nil
  | n :: ns, _, h => by
    cases h with
    | cons r t => obtain ⟨tk, rfl⟩ := r; exact .cons n tk (ints_are t)
theorem cr_setI (hc : X.calm = true) : CallR X (.type "set") (rSetI X.K X.w) := by
  intro pins s σ H xs us Q I r ⟨l, ns, e, hl, h64, k⟩
  subst e
  rw [Vals.ref1 r]
  have fin : ∀ (g1 : Heap) (tk c : Nat), SetR X.w g1 s.heap.objs.size (fun j => decide (j ∈ ns)) c → c ≤ ns.length → (∀ b o, s.heap.get? b = some o → g1.get? b = some o) → EP X pins σ Q (.ref s.heap.objs.size) { s with heap := g1, toks := tk } := fun g1 tk c hS hc kp =>
    ⟨.ref s.heap.objs.size, _, I.laid (t' := tk) kp (Nat.le_refl _) (setO_new hS), rfl, k _ c (I.hok.fresh (Nat.le_refl _)) hc⟩
  have room : ns.length + 1 < scanBound := by unfold scanBound; omega
  rcases hl with hl | hl
  · obtain ⟨its, rv, p, hz⟩ := I.list hl
    exact call_set_lstI ns (I.ok.hd hc) p.isList (by simpa using ints_are rv) room fin
  · obtain ⟨its, rv, p, hz⟩ := I.tuple hl
    exact call_set_tupI ns (I.ok.hd hc) (show s.heap.IsTuple l its.toArray from p) (by simpa using ints_are rv) room fin
def psortset : List PV → Option PV
  | [.lst _ xs] => (intsOf xs).bind fun ns => if ns.length < 64 then some (.lst true ((sset ns).map .int)) else none
  | [.tup xs] => (intsOf xs).bind fun ns => if ns.length < 64 then some (.lst true ((sset ns).map .int)) else none
  | _ => none
theorem rvs_ints : ∀ (ns : List Int), RVs K mg H B (ns.map .int) (ns.map V.int) []
  | [] => .nil
  | n :: ns => .cons (F := []) (.int n) (rvs_ints ns)
theorem sortset_te {w : World} {f : M (List Opd)} {Q : VK} (h : tE q K mg P (cCall psortset f) σ H Q) : tCB (rSortedSet w) (tCons (tCB (rSetI K w) (tA q K mg P f)) tNil) σ H Q := by
  obtain ⟨ρ, B, F, os, ρ', R, z1, k⟩ := call_te h
  refine ⟨ρ, B, F, os, ρ', R, z1, fun xs H1 B1 G1 F1 p => ?_⟩
  obtain ⟨B0, vs, r, pr, g, nw⟩ := k xs H1 B1 G1 F1 p
  have key : ∀ (l : Addr) (ns : List Int), xs = [.ref l] → (SqL K H1 l (ns.map V.int) ∨ SqT K H1 l (ns.map V.int)) → (if ns.length < 64 then some (PV.lst true ((sset ns).map .int)) else none) = some r → rSetI K w xs H1 fun x H1 => tNil σ H1 fun xs H2 => rSortedSet w (x :: xs) H2 Q := fun l ns ex hl g => by
    obtain ⟨h64, rfl⟩ := ite_some g
    refine ⟨l, ns, ex, hl, h64, fun p0 c hp hc => ⟨p0, _, c, rfl, upd_same, by omega, fun ms p1 h1 h2 h3 h4 => ?_⟩⟩
    have e : ms = sset ns := eq_of_lt h1 (sset_lt ns) fun j => by rw [h2 j, sset_mem]; simp
    subst e
    have k1 : Keep [] H1 B0 (upd H1 p0 (SetO w p0 (fun j => decide (j ∈ ns)) c)) (own1 B0 p1) := fun b u eb _ => by
      have n0 := ne_of_none eb hp
      refine ⟨by rw [upd_ne n0]; exact eb, ⟨fun z => z.elim (fun e => ?_) id, .inr⟩⟩
      subst e
      rw [upd_ne n0, eb] at h4
      cases h4
    have k2 : Keep [] (upd H1 p0 (SetO w p0 (fun j => decide (j ∈ ns)) c)) (own1 B0 p1) (upd (upd H1 p0 (SetO w p0 (fun j => decide (j ∈ ns)) c)) p1 (.lst ((sset ns).map V.int))) (own1 B0 p1) := Keep.new h4
    refine nw (.ref p1) _ (own1 B0 p1) [p1] (.lstO upd_same (.inl rfl) (rvs_ints _)) (by simp) (fun b hb => ?_) (k1.trans0 k2)
    obtain rfl := List.mem_singleton.mp hb
    by_cases e : b = p0
    · subst e
      exact hp
    · rw [upd_ne e] at h4
      exact h4
  unfold psortset at g
  split at g
  · obtain ⟨ns, e, g⟩ := bind_some g
    obtain ⟨z, rfl, W, rv⟩ := pr1 pr
    obtain ⟨l, ys, W, rfl, ha, rs, _⟩ := rv.lsts
    obtain rfl := ints_ok rs e
    exact key l ns rfl (.inl (.of ha)) g
  · obtain ⟨ns, e, g⟩ := bind_some g
    obtain ⟨z, rfl, W, rv⟩ := pr1 pr
    cases rv with
    | tup hs rs =>
      obtain rfl := ints_ok rs e
      exact key _ ns rfl (.inr hs) g
  · cases g
theorem ge_sortset {f : M (List Opd)} {pa pb pc pd : Pos} (hc : X.calm = true) (hK : X.K = K) (hm1 : X.mg "sorted" = none) (hg1 : Gl X "sorted") (hm2 : X.mg "set" = none) (hg2 : Gl X "set") (ha : PA X [e] (tA q K mg P f)) (hs : starEach [e] X.env = (false, eval e X.env) :: starEach [] X.env := by rfl)
    (hs2 : starEach [.Call (.Name "set" pa) [e] [] pb] X.env = (false, eval (.Call (.Name "set" pa) [e] [] pb) X.env) :: starEach [] X.env := by rfl) :
    PE X (.Call (.Name "sorted" pc) [.Call (.Name "set" pa) [e] [] pb] [] pd) (tE q K mg P (cCall psortset f)) := by
  subst hK
  exact PE.weak (pe_callB (cr_sortedSet hc) hg1 hm1 (by first | rfl | decide +kernel) (pa_cons (pe_callTy (cr_setI hc) hg2 hm2 (by first | rfl | decide +kernel) ha (by decide) (by decide) hs (by rfl)) pa_nil hs2) (by decide) (by decide) hs2 (by rfl)) fun σ H Q h => sortset_te h

/-! ### repr -/
def prepr : List PV → Option PV
  | [v] => (toD v).bind fun d => if d.showable = true ∧ d.shown.length ≤ 16777216 ∧ d.depth ≤ 60 then some (.str d.shown) else none
  | _ => none
mutual
theorem toD_flat : ∀ {v : PV} {d : PyData}, toD v = some d → d.hasDict = false
  | .non, d, e => by cases e; rfl
  | .bl b, d, e => by cases e; rfl
  | .int b, d, e => by cases e; rfl
  | .str b, d, e => by cases e; rfl
  | .tup xs, d, e => by
    obtain ⟨ds, e1, e2⟩ := Option.map_eq_some_iff.mp e
    subst e2
    exact toDs_flat e1
  | .lst _ xs, d, e => by
    obtain ⟨ds, e1, e2⟩ := Option.map_eq_some_iff.mp e
    subst e2
    exact toDs_flat e1
  | .dic _ _, d, e => nomatch e
  | .ins _ _ _, d, e => nomatch e
  | .zls _, d, e => nomatch e
  | .ty _, d, e => nomatch e
  | .fn _, d, e => nomatch e
theorem toDs_flat : ∀ {v : List PV} {d : List PyData}, toDs v = some d → PyData.hasDictAll d = false
  | [], _, e => by cases e; rfl
  | x :: xs, _, e => by
    obtain ⟨d, e1, e⟩ := bind_some e
    obtain ⟨ds, e2, e⟩ := bind_some e
    cases e
    simp only [PyData.hasDictAll, toD_flat e1, toDs_flat e2]
    rfl
end
theorem cr_repr (hK : X.K = K) (hgd : X.A.guards = some []) (hu : X.A.units + 66 < cLine) : CallR X (.builtin "repr") (rCall K mg prepr) := by
  subst hK
  intro pins s σ H xs us Q I rx ⟨B, vs, r, ps, g, k⟩
  unfold prepr at g
  split at g
  · obtain ⟨d, hd, g⟩ := bind_some g
    obtain ⟨⟨h1, h2, h3⟩, rfl⟩ := ite_some g
    obtain ⟨z, rfl, W, rv⟩ := pr1 ps
    obtain ⟨u, rfl, ru⟩ := vals1 rx
    obtain ⟨as, rd⟩ := Dp.reads I d z u (rv.dp hd) ru
    have qq : ∀ t (g1 : Heap) tk, (∀ b o, s.heap.get? b = some o → g1.get? b = some o) → EP X pins σ Q (.str d.shown t) { s with heap := g1, toks := tk } := fun t g1 tk kp => ⟨.str d.shown, H, I.kept kp, ⟨_, rfl⟩, k.pure (.str _)⟩
    cases rd with
    | none => exact PySem.P.repr_of_none (by rw [← PyData.shown_none]; exact qq _ _ _ fun _ _ h => h)
    | bool b => exact PySem.P.repr_of_bool (by rw [← PyData.shown_bool]; exact qq _ _ _ fun _ _ h => h)
    | int i t => exact PySem.P.repr_of_int (by simpa [PyData.showable] using h1) (by rw [← PyData.shown_int]; exact qq _ _ _ fun _ _ h => h)
    | str x t => exact PySem.P.repr_of_str (by rw [← PyData.shown_str]; exact qq _ _ _ fun _ _ h => h) (by rw [← PyData.shown_str]; exact h2)
    | list a1 a2 a3 a4 => exact repr_of_reads' (Reads.list a1 a2 a3 a4) h1 (PyData.noDict_hsm (toD_flat hd)) hgd (by omega) (fun _ _ h => h) (fun g1 t tk kp => qq t g1 tk kp) h2
    | tuple a1 a2 a3 a4 => exact repr_of_reads' (Reads.tuple a1 a2 a3 a4) h1 (PyData.noDict_hsm (toD_flat hd)) hgd (by omega) (fun _ _ h => h) (fun g1 t tk kp => qq t g1 tk kp) h2
    | dict => cases toD_flat hd
  · cases g

/-! ### x += .. -/
def piadd : PV → PV → Option PV
  | .int i, .int j => some (.int (i + j))
  | _, _ => none
def pisub : PV → PV → Option PV
  | .int i, .int j => some (.int (i - j))
  | _, _ => none
theorem or_iop {op : Operator} {f : Int → Int → Int} {g : PV → PV → Option PV} (h : OpR X (inplaceOp op) (rI0 fun i j => .int (f i j))) (hg : ∀ a b r, g a b = some r → ∃ i j, a = .int i ∧ b = .int j ∧ r = .int (f i j)) : OpR X (inplaceOp op) (rOp K mg g) := by
  intro pins s σ H x y v u Q I rx ry ⟨B, va, vb, Wa, Wb, r, ra, rb, gr, k⟩
  obtain ⟨i, j, rfl, rfl, rfl⟩ := hg _ _ _ gr
  cases ra
  cases rb
  exact h pins s σ H _ _ v u Q I rx ry ⟨i, j, rfl, rfl, k.pure (.int _)⟩
theorem or_iadd : OpR X (inplaceOp .Add) (rOp K mg piadd) := or_iop iop_add fun a b r h => by
  unfold piadd at h
  split at h
  · cases h; exact ⟨_, _, rfl, rfl, rfl⟩
  · cases h
theorem or_isub : OpR X (inplaceOp .Sub) (rOp K mg pisub) := or_iop iop_sub fun a b r h => by
  unfold pisub at h
  split at h
  · cases h; exact ⟨_, _, rfl, rfl, rfl⟩
  · cases h
/-! ### names of the module -/
theorem ge_glob {nm : Str} {z : V} {u : Value} (hg : Gl X nm) (hm : X.mg nm = some u) (r : RelV z u) (rv : ∀ H B, RV K mg H B v z []) (hd : (nm == ("__debug__" : Str)) = false := by decide) : PE X (.Name nm pos) (tE q K mg P (cC v)) := ge_const (pe_glob hg hm r hd) rv
end
end GX

/-! GX: what the generated text leans on. -/
namespace GX
open PySem PySem.Spec PyProof.Rows L2
theorem room_u {k : Nat} {A : Around} (r : Room k A) (n : Nat) (h : n ≤ 200) : A.units + n < cLine := by have := r.un; omega
theorem bb_len : bootBuiltins "len" = some (.builtin "len") := by decide +kernel
theorem bb_sum : bootBuiltins "sum" = some (.builtin "sum") := by decide +kernel
theorem bb_max : bootBuiltins "max" = some (.builtin "max") := by decide +kernel
theorem bb_min : bootBuiltins "min" = some (.builtin "min") := by decide +kernel
theorem bb_abs : bootBuiltins "abs" = some (.builtin "abs") := by decide +kernel
theorem bb_all : bootBuiltins "all" = some (.builtin "all") := by decide +kernel
theorem bb_any : bootBuiltins "any" = some (.builtin "any") := by decide +kernel
theorem bb_sorted : bootBuiltins "sorted" = some (.builtin "sorted") := by decide +kernel
theorem bb_repr : bootBuiltins "repr" = some (.builtin "repr") := by decide +kernel
theorem bb_isinstance : bootBuiltins "isinstance" = some (.builtin "isinstance") := by decide +kernel
theorem bb_divmod : bootBuiltins "divmod" = some (.builtin "divmod") := by decide +kernel
theorem bb_int : bootBuiltins "int" = some (.type "int") := by decide +kernel
theorem bb_str : bootBuiltins "str" = some (.type "str") := by decide +kernel
theorem bb_bool : bootBuiltins "bool" = some (.type "bool") := by decide +kernel
theorem bb_list : bootBuiltins "list" = some (.type "list") := by decide +kernel
theorem bb_tuple : bootBuiltins "tuple" = some (.type "tuple") := by decide +kernel
theorem bb_dict : bootBuiltins "dict" = some (.type "dict") := by decide +kernel
theorem bb_set : bootBuiltins "set" = some (.type "set") := by decide +kernel
theorem bb_range : bootBuiltins "range" = some (.type "range") := by decide +kernel
theorem bb_enumerate : bootBuiltins "enumerate" = some (.type "enumerate") := by decide +kernel
theorem bb_zip : bootBuiltins "zip" = some (.type "zip") := by decide +kernel
theorem bb_type : bootBuiltins "type" = some (.type "type") := by decide +kernel
theorem bb_reversed : bootBuiltins "reversed" = some (.type "reversed") := by decide +kernel
section
variable {q : Bool} {K : PySem.W.Frag} {mg : Str → Option Value} {P : List V} {X : Cx} {pos : Pos}
theorem ge_tyN {x : Str} {T : String} (hm : X.mg x = none) (hg : Gl X x) (hv : bootBuiltins x = some (.type T)) (hn : x ≠ "__name__" := by decide) (hd : (x == ("__debug__" : Str)) = false := by decide) : PE X (.Name x pos) (tE q K mg P (cC (.ty T))) :=
  ge_const (pe_bltn (v := .ty T) hg hm hv (by rfl) hn hd) fun _ _ => .ty T
end
end GX
namespace GX
open PySem PySem.Spec PyProof.Rows L2
/-- a def of the text, as the module holds it -/
structure Fk (K : PySem.W.Frag) (mg : Str → Option Value) (x : Str) (st : Stmt) (ps : List Str) (a : Addr) (fd : FuncData) : Prop where
  f : Fun K x x st a fd
  b : Binds K fd ps []
  g : mg x = some (.ref a)
  p : PySem.W.keepIn K (.ref a) = true
  ba : ∀ (s : Shared) (us : List Value), us.length = ps.length → BindsTo s fd ⟨us, []⟩ (ps.zip us)
/-- .. with a default for its last parameter -/
structure FkD (K : PySem.W.Frag) (mg : Str → Option Value) (x : Str) (st : Stmt) (ps : List Str) (dv : V) (a : Addr) (fd : FuncData) : Prop where
  f : FunD K x x (defArgs st) (defBody st) (defScope st) [dv] [] a fd
  b : Binds K fd ps []
  b1 : ∃ ds, Vals [dv] ds ∧ Binds K fd ps ds
  g : mg x = some (.ref a)
  p : PySem.W.keepIn K (.ref a) = true
/-- a constant of the module -/
structure Ck (K : PySem.W.Frag) (mg : Str → Option Value) (x : Str) (v : PV) : Prop where
  ex : ∃ u z, mg x = some u ∧ RelV z u ∧ ∀ H B, RV K mg H B v z []
section
variable {q : Bool} {K : PySem.W.Frag} {mg : Str → Option Value} {P : List V} {X : Cx} {pos : Pos} {x : Str} {v : PV}
theorem ge_ck (c : Ck K mg x v) (hmg : X.mg = mg) (hg : Gl X x) (hd : (x == ("__debug__" : Str)) = false := by decide) : PE X (.Name x pos) (tE q K mg P (cC v)) := by
  obtain ⟨u, z, h1, h2, h3⟩ := c.ex
  subst hmg
  exact ge_glob hg h1 h2 h3 hd
theorem ge_fnD {CX : CXT} {k j m : Nat} {f : Addr} {fd : FuncData} {ps : List Str} {fs : Fn} {dp : PV} {dv : V} {E : XK} {p : Pos} {e : Expr} {es : List Expr} {fa : M (List Opd)} (F : GOk X.prog X.w X.K X.mg X.base CX j f fd ps (spG K mg m fs)) (hr : Room k X.A) (hgd : X.A.guards = some []) (hj : j ≤ k) (hg : Gl X x) (hm : X.mg x = some (.ref f)) (hk : PySem.W.keepIn X.K (.ref f) = true) (hb : ∃ ds, Vals [dv] ds ∧ Binds X.K fd ps ds) (hx : Passes CX X E)
    (hv : ∀ H B, RV K mg H B dp dv []) (hl : ∀ as r, fs as = some r → as.length = m)
    (ha : PA X (e :: es) (tA false K mg P fa)) (hdb : (x == ("__debug__" : Str)) = false := by decide) (he : starEach (e :: es) X.env = (false, eval e X.env) :: starEach es X.env := by rfl) (hpl : (backTo pos (starEach es X.env)).any (·.1) = false := by rfl) :
    PE X (.Call (.Name x p) (e :: es) [] pos) (tE false K mg P (cFn fs [dp] fa)) := by
  obtain ⟨ds, h1, h2⟩ := hb
  exact ge_fn F hr hgd hj hg hm hk h2 h1 hx (fun H B => .cons (F := []) (hv H B) .nil) hl ha hdb he hpl
end
end GX
namespace GX
open PySem PySem.Spec PyProof.Rows L2
theorem wipe_set {σ : Sg} {i : Nat} {x : Option V} {vs : List Nat} (h : i ∈ vs) : wipe (σ.set i x) vs = wipe σ vs := by
  apply List.ext_getElem?
  intro j
  rw [wipe_get, wipe_get]
  by_cases e : i = j
  · subst e
    by_cases hl : i < σ.length
    · rw [List.getElem?_set_self hl, List.getElem?_eq_getElem hl]
      simp [h]
    · rw [List.getElem?_eq_none (by simpa using hl), List.getElem?_eq_none (by simpa using hl)]
  · rw [List.getElem?_set_ne e]
section
variable {q : Bool} {K : PySem.W.Frag} {mg : Str → Option Value} {P : List V} {X : Cx} {pos : Pos} {x : Str} {v : PV} {e : Expr}
/-- what only reads -/
theorem ge_rd {f : M PV} (h : PE X e (tE true K mg P f)) : PE X e (tE q K mg P f) := PE.weak h fun σ H Q ⟨ρ, B, F, u, ρ', R, e1, k⟩ => ⟨ρ, B, F, u, ρ', R, e1, fun x H' B' G F' p => k x H' B' G F' ⟨p.rv, p.sl, p.nd, p.st, fun _ => p.ro rfl⟩⟩
theorem go_rd {f : O} (h : PE X e (tO true K mg P f)) : PE X e (tO q K mg P f) := PE.weak h fun σ H Q ⟨ρ, B, F, u, ρ', R, e1, k⟩ => ⟨ρ, B, F, u, ρ', R, e1, fun x H' B' G F' p => k x H' B' G F' ⟨p.ov, p.sl, p.nd, p.st, fun _ => p.ro rfl⟩⟩
theorem gt_rd {f : M Bool} (h : PT X e (tT true K mg P f)) : PT X e (tT q K mg P f) := PT.weak h fun σ H Q ⟨ρ, B, F, u, ρ', R, e1, k⟩ => ⟨ρ, B, F, u, ρ', R, e1, fun H' B' F' p => k H' B' F' ⟨p.sl, p.nd, p.st, fun _ => p.ro rfl⟩⟩
end
end GX

/-! GX: the end: the law's promise at the heap behind the top. -/
namespace GX
open PySem PySem.Spec PyProof.Rows L2

/-- what the law's def promises: it gives True for every script -/
def spEnd (K : PySem.W.Frag) (n : Nat) : Sp := fun vs H Q _ => ∃ (a : Addr) (ns : List Int), vs = [.ref a] ∧ ns.length ≤ n ∧ SqL K H a (ns.map V.int) ∧ ∀ H', Q (.bl true) H'
section
variable {K : PySem.W.Frag} {mg : Str → Option Value} {Pr : Program} {w : World} {base : Heap}
theorem rvs_script {H : Hp} {B : Addr → Prop} (ns : List Int) : RVs K mg H B (ns.map .int) (ns.map V.int) [] := rvs_ints ns
theorem end_ok {k n : Nat} {f : Addr} {fd : FuncData} {x : Str} {lf : Fn} (F : GOk Pr w K mg base CX0 k f fd [x] (spG K mg 1 lf))
    (run : ∀ ns : List Int, ns.length ≤ n → ∃ ts, lf [.val (.zls (ns.map .int))] = some (.bl true, ts)) : GOk Pr w K mg base CX0 k f fd [x] (spEnd K n) := by
  refine ⟨fun vs H Q E ⟨a, ns, e, _⟩ => by rw [e] <;> rfl, fun A fs s H ar us vs Q E hr hg e0 hb rv hsp => F.go A fs s H ar us vs Q E hr hg e0 hb rv ?_⟩
  obtain ⟨a, ns, rfl, hn, hS, hq⟩ := hsp
  obtain ⟨ts, e⟩ := run ns hn
  refine ⟨rfl, fun _ => False, [.val (.zls (ns.map .int))], [], .bl true, ts, ?_, List.nodup_nil, e, fun y H' B' Gv G' σ' rb _ _ _ => ?_⟩
  · have z : RV K mg H (fun _ => False) (.zls (ns.map .int)) (.ref a) [] := .zls (hS.imp (fun q => ⟨q, id⟩) id) (rvs_script ns)
    exact .cons (F := []) (G := []) (.val z) .nil
  · cases rb
    exact hq H'
/-- the law's call, from outside -/
theorem law_go {mb : Str → Option Value} {k n : Nat} {fa a : Addr} {fd : FuncData} {x : Str} {t : Shared} {vs : List Value} {ns : List Int}
    (KX : K.In t.heap) (h1 : t.heap.Ns mainGlobals mg) (h2 : t.heap.Ns builtinsNs mb) (h3 : ∀ x : Str, x ≠ "__name__" → mb x = bootBuiltins x) (h4 : t.heap.NoLimit) (h5 : t.gens = #[])
    (ha : t.heap.get? a = some { cls := .type "list", data := .seq vs.toArray }) (hi : IntsAre vs ns) (hl : ns.length ≤ n) (hn : n ≤ sizeLine) (hr : Room k callerA)
    (F : ∀ base : Heap, K.In base → base.Ns mainGlobals mg → GOk Pr w K mg base CX0 k fa fd [x] (spEnd K n)) (hb : ∀ (s : Shared) (u : Value), BindsTo s fd ⟨[u], []⟩ [(x, u)]) :
    codeAny (model Pr w) callerA (.call (.ref fa) ⟨[.ref a], []⟩) (fun r s' => r = .ok (.ret (.bool true)) ∧ OldK t.heap s'.heap ∧ s'.os = t.os ∧ AllBare s'.gens) t := by
  have rv := vals_ints hi
  have lv := hi.length
  have main : ∀ H : Hp, Only H → SqL K H a (ns.map V.int) → HOk Pr w H t.heap → (∀ b, H b ≠ none → b = a) → (H a ≠ none → K.lookup a = none) →
      codeAny (model Pr w) callerA (.call (.ref fa) ⟨[.ref a], []⟩) (fun r s' => r = .ok (.ret (.bool true)) ∧ OldK t.heap s'.heap ∧ s'.os = t.os ∧ AllBare s'.gens) t := by
    intro H hO hS hok hA hK
    have isA : ∀ {b : Addr} {u : HO}, H b = some u → b = a := fun {b u} q => hA b (by rw [q]; exact Option.some_ne_none u)
    have noD : ∀ {b : Addr} {o : Obj} {es : Array DictEntry} {ep : Nat}, t.heap.get? b = some o → o.data = .dict es ep → H b = none := fun {b o es ep} e d => by
      cases q : H b with
      | none => rfl
      | some u =>
        rw [isA q, ha] at e
        cases e
        cases (show Data.seq vs.toArray _ = Data.dict es ep from d)
    have ns2 : ∀ {b : Addr} {m : Str → Option Value}, t.heap.Ns b m → (hidT t.heap H).Ns b m := fun ⟨o, es, ep, e, d, r⟩ => ⟨o, es, ep, hidT_get e (noD e d), d, r⟩
    have kIn : K.In (hidT t.heap H) := fun b o e => hidT_get (KX b o e) (by
      cases q : H b with
      | none => rfl
      | some u =>
        have z := isA q
        subst z
        rw [hK (by rw [q]; exact Option.some_ne_none u)] at e
        cases e)
    have md : Mod K mg (hidT t.heap H) := ⟨kIn, ns2 h1, ⟨mb, ns2 h2, h3⟩, let ⟨mc, q1, q2⟩ := h4; ⟨mc, ns2 q1, q2⟩⟩
    have e0 : Env0 Pr w K mg (hidT t.heap H) callerA [] t H := ⟨rfl, md, fun b o e => of_hidT e, Nat.le_of_eq (hidT_size _ _), trivial, (fun b hb => nomatch hb), hok, .of_eq h5⟩
    refine codeAny_mono ((F _ kIn (ns2 h1)).go callerA [] t H ⟨[.ref a], []⟩ [.ref a] [.ref a] (fun v _ => v = .bl true) (fun _ _ _ => False) hr rfl e0 (hb t (.ref a)) (.cons rfl .nil) ⟨a, ns, rfl, hl, hS, fun _ => rfl⟩) fun r s' h => ?_
    match r, h with
    | .ok (.ret u), h =>
      obtain ⟨v, H', os, bare, un, hok2, r2, q⟩ := h
      obtain rfl : v = .bl true := q
      obtain rfl : u = Value.bool true := r2
      refine ⟨rfl, OldK.of_keep fun b o e => ?_, os, bare⟩
      cases q : H b with
      | none => exact un.keep b o e q (fun z => nomatch z) (fun z => nomatch z)
      | some u =>
        rcases hO b with z | ⟨ob, xs, z⟩
        · rw [q] at z; cases z
        · obtain ⟨e1, _⟩ := hok b _ z
          obtain ⟨e2, _⟩ := hok2 b _ (un.frzs b ob _ z)
          rw [e] at e1; cases e1
          exact e2
  cases hk : K.lookup a with
  | some o =>
    have e := KX a o hk
    rw [ha] at e
    cases e
    exact main (fun _ => none) (fun _ => .inl rfl) (.inr ⟨_, vs.toArray, _, hk, rfl, rfl, rfl, by rw [List.size_toArray, lv]; omega, by simpa using rv⟩) (fun b u z => nomatch z) (fun b z => absurd rfl z) fun z => absurd rfl z
  | none =>
    refine main (fun b => if b = a then some (.frz { cls := .type "list", data := .seq vs.toArray } (.lst (ns.map V.int))) else none) (fun b => ?_) (.inl (.inr ⟨_, if_pos rfl⟩)) (fun b u z => ?_) (fun b z => Decidable.byContradiction fun q => absurd (if_neg q) z) fun _ => hk
    · by_cases q : b = a
      · exact .inr ⟨_, _, if_pos q⟩
      · exact .inl (if_neg q)
    · by_cases q : b = a
      · cases (if_pos q).symm.trans z
        subst q
        exact ⟨ha, by rw [List.length_map]; omega, vs, _, rv, ha⟩
      · cases (if_neg q).symm.trans z
theorem walk_go {l : PySem.W.OpenLaw} {n k : Nat} {q : Program} {loose : List Str} {XP : (Str → Option Value) → Heap → Prop} {YP : World → Heap → Prop} {d : DefRec} {KF : Params → PySem.W.Frag} {x : Str}
    (e1 : l.most = some n) (e2 : n ≤ sizeLine) (e3 : d.params.defaults = []) (hr : Room k callerA) (hY : ∀ (w : World) (h : Heap), YP w h → (KF w.params).In h)
    (F : ∀ (w : World) (mg : Str → Option Value) (fa : Addr) (h : Heap), (KF w.params).In h → h.Ns mainGlobals mg → mg d.name = some (.ref fa) →
      ∃ fd : FuncData, (∀ (s : Shared) (u : Value), BindsTo s fd ⟨[u], []⟩ [(x, u)]) ∧ ∀ base : Heap, (KF w.params).In base → base.Ns mainGlobals mg → GOk l.prog w (KF w.params) mg base CX0 k fa fd [x] (spEnd (KF w.params) n)) :
    PySem.W.WalkO q loose XP YP l.row.toRowW d [] (fun f vs => PySem.call f vs) :=
  Att.attach_call e1 e3 fun w s0 s1 mg mb fa o pm cd doc a vs ns G Y ho hd hcd hmg hobj hints hlen hg => by
    have KX := hY w _ Y
    obtain ⟨fd, hb, hF⟩ := F w mg fa _ KX G.T.g hmg
    exact law_go KX G.T.g G.T.b G.T.builtins G.T.nolimit hg hobj hints hlen e2 hr hF hb
/-! ### what stands behind the top -/
theorem fin_go {KF : PySem.W.Frag} {l : PySem.W.OpenLaw} {k n : Nat} {st : Stmt} {fa a0 : Addr} {fd : FuncData} {x nm : Str} {lf : Fn} (t : Fk KF mg nm st [x] a0 fd) (hfa : mg nm = some (.ref fa)) (F : ∀ base : Heap, GOk l.prog w KF mg base CX0 k a0 fd [x] (spG KF mg 1 lf))
    (run : ∀ ns : List Int, ns.length ≤ n → ∃ ts, lf [.val (.zls (ns.map .int))] = some (.bl true, ts)) :
    ∃ fd : FuncData, (∀ (s : Shared) (u : Value), BindsTo s fd ⟨[u], []⟩ [(x, u)]) ∧ ∀ base : Heap, KF.In base → base.Ns mainGlobals mg → GOk l.prog w KF mg base CX0 k fa fd [x] (spEnd KF n) := by
  have e := t.g.symm.trans hfa
  cases e
  exact ⟨fd, fun s u => t.ba s [u] rfl, fun base _ _ => end_ok (F base) run⟩
theorem fk_mk {h : Heap} (X : K.In h) (G : h.Ns mainGlobals mg) {x : Str} {st : Stmt} {ps : List Str} {f : Addr} {od an : Option Addr} {sl : Array (Option Value)} {oc kV dc pm cd ct : Value}
    (a1 : PySem.W.nsIn K mainGlobals x = some (some (.ref f))) (l1 : K.lookup f = some ⟨oc, od, .func (PySem.W.fnOf x x (defArgs st) (defBody st) (defScope st) .none kV dc pm an cd ct), sl⟩) (c1 : PySem.W.codeIn K cd x = true) (k1 : PySem.W.keepIn K (.ref f) = true)
    (b : ∀ (kV doc pm : Value) (an : Option Addr) (cdv ct : Value) (us : List Value), us.length = ps.length → bindArgs (PySem.W.fnOf x x (defArgs st) (defBody st) (defScope st) .none kV doc pm an cdv ct) ⟨us, []⟩ = pure (ps.zip us)) :
    Fk K mg x st ps f (PySem.W.fnOf x x (defArgs st) (defBody st) (defScope st) .none kV dc pm an cd ct) :=
  have F := fun_mk (st := st) l1 c1 k1
  ⟨F, F.binds b, PySem.W.mg_of X G a1, k1, fun s us hl => .of_eq (b _ _ _ _ _ _ us hl)⟩
theorem fkD_mk {h : Heap} (X : K.In h) (G : h.Ns mainGlobals mg) {x : Str} {st : Stmt} {ps : List Str} {f T : Addr} {od an : Option Addr} {sl : Array (Option Value)} {oc kV dc pm cd ct : Value} {dv : V} {oT : Obj} {its : List Value} {nT : Nat}
    (a1 : PySem.W.nsIn K mainGlobals x = some (some (.ref f))) (l1 : K.lookup f = some ⟨oc, od, .func (PySem.W.fnOf x x (defArgs st) (defBody st) (defScope st) (.ref T) kV dc pm an cd ct), sl⟩) (c1 : PySem.W.codeIn K cd x = true) (k1 : PySem.W.keepIn K (.ref f) = true)
    (t1 : K.lookup T = some oT) (t2 : oT.data = .seq its.toArray nT) (t3 : Vals [dv] its)
    (b0 : ∀ (T : Addr) (kV doc pm : Value) (an : Option Addr) (cdv ct : Value) (us its : List Value), us.length = ps.length → its.length = [dv].length →
      ∃ k, bindArgs (PySem.W.fnOf x x (defArgs st) (defBody st) (defScope st) (.ref T) kV doc pm an cdv ct) ⟨us, []⟩ = seqItems? (.ref T) >>= k ∧ k (some its.toArray) = pure (ps.zip (us ++ its.drop 1)))
    (b1 : ∀ (T : Addr) (kV doc pm : Value) (an : Option Addr) (cdv ct : Value) (us its : List Value), us.length + 1 = ps.length → its.length = [dv].length →
      ∃ k, bindArgs (PySem.W.fnOf x x (defArgs st) (defBody st) (defScope st) (.ref T) kV doc pm an cdv ct) ⟨us, []⟩ = seqItems? (.ref T) >>= k ∧ k (some its.toArray) = pure (ps.zip (us ++ its.drop 0))) (hp : 1 ≤ ps.length) :
    FkD K mg x st ps dv f (PySem.W.fnOf x x (defArgs st) (defBody st) (defScope st) (.ref T) kV dc pm an cd ct) :=
  have F : FunD K x x (defArgs st) (defBody st) (defScope st) [dv] [] f (PySem.W.fnOf x x (defArgs st) (defBody st) (defScope st) (.ref T) kV dc pm an cd ct) :=
    ⟨⟨oc, od, .ref T, kV, dc, pm, an, cd, ct, sl, rfl, l1, c1, .inr ⟨nofun, T, oT, its, nT, rfl, t1, t2, t3⟩, .inl rfl⟩, k1⟩
  ⟨F, by
    obtain ⟨ds, h1, h2⟩ := F.binds1 (ps := ps) ps.length 1 nofun (by simp) fun T kV doc pm an cdv ct us its hu hi => b0 T kV doc pm an cdv ct us its hu hi
    cases h1
    exact h2, by
    obtain ⟨ds, h1, h2⟩ := F.binds1 (ps := ps) (ps.length - 1) 0 nofun (by simp; omega) fun T kV doc pm an cdv ct us its hu hi => b1 T kV doc pm an cdv ct us its (by omega) hi
    exact ⟨ds, h1, h2⟩, PySem.W.mg_of X G a1, k1⟩
theorem ck_int {h : Heap} (X : K.In h) (G : h.Ns mainGlobals mg) {x : Str} {i : Int} {t : Tok} (a : PySem.W.nsIn K mainGlobals x = some (some (.int i t))) : Ck K mg x (.int i) :=
  ⟨⟨_, .int i, PySem.W.mg_of X G a, ⟨t, rfl⟩, fun _ _ => .int i⟩⟩
theorem ck_tup {h : Heap} (X : K.In h) (G : h.Ns mainGlobals mg) {x : Str} {T : Addr} {o : Obj} {its : Array Value} {nT : Nat} {ps : List PV} {ys : List V} (a : PySem.W.nsIn K mainGlobals x = some (some (.ref T))) (l : K.lookup T = some o) (c : o.cls = .type "tuple") (d : o.data = .seq its nT) (z : its.size ≤ sizeLine)
    (v : Vals ys its.toList) (r : ∀ H B, RVs K mg H B ps ys []) : Ck K mg x (.tup ps) :=
  ⟨⟨_, .ref T, PySem.W.mg_of X G a, rfl, fun H B => .tup (.inr ⟨o, its, nT, l, c, d, z, v⟩) (r H B)⟩⟩
end
end GX

/-! GX: how the shallow programs run: weakest preconditions by simp. -/
namespace GX
open PySem PySem.Spec PyProof.Rows L2

/-- m ends with a value that has Q -/
def W0 {α : Type} (m : Option α) (Q : α → Prop) : Prop := ∃ a, m = some a ∧ Q a
theorem oW_congr {α : Type} {m m' : Option α} {Q : α → Prop} (h : m = m') : W0 m Q = W0 m' Q := by rw [h]
@[simp] theorem oW_some {α : Type} (a : α) (Q : α → Prop) : W0 (some a) Q = Q a := propext ⟨fun ⟨_, e, q⟩ => (by cases e; exact q), fun q => ⟨a, rfl, q⟩⟩
@[simp] theorem oW_none {α : Type} (Q : α → Prop) : W0 none Q = False := propext ⟨fun ⟨_, e, _⟩ => (by cases e), False.elim⟩
theorem oW_bind {α β : Type} (m : Option α) (f : α → Option β) (Q : β → Prop) : W0 (m.bind f) Q = W0 m fun a => W0 (f a) Q := propext
  ⟨fun ⟨b, e, q⟩ => by obtain ⟨a, e1, e2⟩ := bind_some e; exact ⟨a, e1, b, e2, q⟩, fun ⟨a, e1, b, e2, q⟩ => ⟨b, by rw [e1]; exact e2, q⟩⟩
theorem W0.mono {α : Type} {m : Option α} {P Q : α → Prop} (h : W0 m P) (k : ∀ a, P a → Q a) : W0 m Q := let ⟨a, e, p⟩ := h; ⟨a, e, k a p⟩
theorem W0.ex {α : Type} {m : Option α} {P : α → Prop} (h : W0 m P) : ∃ a, m = some a ∧ P a := h
theorem oW_eq {α : Type} {m : Option α} {a : α} : W0 m (fun z => z = a) = (m = some a) := propext ⟨fun ⟨_, e, q⟩ => by rw [e, q], fun e => ⟨a, e, rfl⟩⟩
theorem oeq_W {α : Type} {m : Option α} {a : α} (h : W0 m fun z => z = a) : m = some a := oW_eq ▸ h
theorem oW_ofEq {α : Type} {m : Option α} {a : α} {Q : α → Prop} (h : m = some a) (q : Q a) : W0 m Q := ⟨a, h, q⟩
/-- a branch -/
def Br0 (c : Prop) (x y : Prop) : Prop := (c → x) ∧ (¬c → y)
theorem oBr_congr {c c' x y : Prop} (h : c = c') : Br0 c x y = Br0 c' x y := by rw [h]
@[simp] theorem oBr_true (x y : Prop) : Br0 True x y = x := propext ⟨fun h => h.1 trivial, fun h => ⟨fun _ => h, fun n => absurd trivial n⟩⟩
@[simp] theorem oBr_false (x y : Prop) : Br0 False x y = y := propext ⟨fun h => h.2 id, fun h => ⟨False.elim, fun _ => h⟩⟩
theorem Br0.mk {c x y : Prop} (h : c → x) (k : ¬c → y) : Br0 c x y := ⟨h, k⟩
/-- a side condition -/
def An0 (c : Prop) (x : Prop) : Prop := c ∧ x
theorem oAn_congr {c c' x : Prop} (h : c = c') : An0 c x = An0 c' x := by rw [h]
@[simp] theorem oAn_true (x : Prop) : An0 True x = x := propext ⟨fun h => h.2, fun h => ⟨trivial, h⟩⟩
@[simp] theorem oAn_false (x : Prop) : An0 False x = False := propext ⟨fun h => h.1, fun h => h.elim⟩
theorem An0.mk {c x : Prop} (h : c) (k : x) : An0 c x := ⟨h, k⟩
theorem oW_if {α : Type} (c : Prop) [Decidable c] (a b : Option α) (Q : α → Prop) : W0 (if c then a else b) Q = Br0 c (W0 a Q) (W0 b Q) := propext (by
  by_cases h : c
  · simp only [if_pos h]; exact ⟨fun q => ⟨fun _ => q, fun n => absurd h n⟩, fun q => q.1 h⟩
  · simp only [if_neg h]; exact ⟨fun q => ⟨fun n => absurd n h, fun _ => q⟩, fun q => q.2 h⟩)
theorem oW_ifn {α : Type} (c : Prop) [Decidable c] (a : Option α) (Q : α → Prop) : W0 (if c then a else none) Q = An0 c (W0 a Q) := propext (by
  by_cases h : c
  · simp only [if_pos h]; exact ⟨fun q => ⟨h, q⟩, fun q => q.2⟩
  · simp only [if_neg h, oW_none]; exact ⟨False.elim, fun q => h q.1⟩)
theorem oW_guard {α : Type} (c : Prop) [Decidable c] (a : Option α) (Q : α → Prop) : W0 (guard c a) Q = An0 c (W0 a Q) := oW_ifn c a Q
@[simp] theorem oW_map {α β : Type} (m : Option α) (f : α → β) (Q : β → Prop) : W0 (m.map f) Q = W0 m fun a => Q (f a) := by cases m <;> simp
/-- behind a statement -/
def outK0 (k : Rho → Prop) (Q : Out → Prop) : Out → Prop
  | .nx ρ => k ρ
  | o => Q o
@[simp] theorem outK0_nx (k : Rho → Prop) (Q : Out → Prop) (ρ : Rho) : outK0 k Q (.nx ρ) = k ρ := rfl
@[simp] theorem outK0_bk (k : Rho → Prop) (Q : Out → Prop) (ρ : Rho) : outK0 k Q (.bk ρ) = Q (.bk ρ) := rfl
@[simp] theorem outK0_ct (k : Rho → Prop) (Q : Out → Prop) (ρ : Rho) : outK0 k Q (.ct ρ) = Q (.ct ρ) := rfl
@[simp] theorem outK0_rt (k : Rho → Prop) (Q : Out → Prop) (v : PV) (ρ : Rho) : outK0 k Q (.rt v ρ) = Q (.rt v ρ) := rfl
/-- behind a loop's body -/
def lopK0 (k : Rho → Prop) (Q : Out → Prop) : Out → Prop
  | .nx ρ => k ρ
  | .ct ρ => k ρ
  | .bk ρ => Q (.nx ρ)
  | .rt v ρ => Q (.rt v ρ)
@[simp] theorem lopK0_nx (k : Rho → Prop) (Q : Out → Prop) (ρ : Rho) : lopK0 k Q (.nx ρ) = k ρ := rfl
@[simp] theorem lopK0_ct (k : Rho → Prop) (Q : Out → Prop) (ρ : Rho) : lopK0 k Q (.ct ρ) = k ρ := rfl
@[simp] theorem lopK0_bk (k : Rho → Prop) (Q : Out → Prop) (ρ : Rho) : lopK0 k Q (.bk ρ) = Q (.nx ρ) := rfl
@[simp] theorem lopK0_rt (k : Rho → Prop) (Q : Out → Prop) (v : PV) (ρ : Rho) : lopK0 k Q (.rt v ρ) = Q (.rt v ρ) := rfl
/-- behind a def's body -/
def fnK0 (m : Nat) (Q : PV × List Slot → Prop) : Out → Prop
  | .nx ρ => Q (.non, (ρ.take m).map outS)
  | .rt v ρ => Q (v, (ρ.take m).map outS)
  | _ => False
@[simp] theorem fnK0_nx (m : Nat) (Q : PV × List Slot → Prop) (ρ : Rho) : fnK0 m Q (.nx ρ) = Q (.non, (ρ.take m).map outS) := rfl
@[simp] theorem fnK0_rt (m : Nat) (Q : PV × List Slot → Prop) (v : PV) (ρ : Rho) : fnK0 m Q (.rt v ρ) = Q (v, (ρ.take m).map outS) := rfl
@[simp] theorem ooutS_un : outS .un = .un := rfl
@[simp] theorem ooutS_val (v : PV) : outS (.val v) = .un := rfl
@[simp] theorem ooutS_ref (v : PV) : outS (.ref v) = .ref v := rfl
section
variable {ρ : Rho} {f g : S} {Q : Out → Prop} {R : PV × Rho → Prop} {RO : Opd × Rho → Prop} {RA : List Opd × Rho → Prop} {RB : Bool × Rho → Prop} {RI : Option Int × Rho → Prop} {RL : List PV × Rho → Prop} {RT : Rho → Prop} {RP : PV → Prop} {RPs : List PV → Prop}
theorem oW_fn (n m : Nat) (b : S) (as : List Slot) : W0 (fnRun n m b as) R = An0 (as.length = m) (W0 (b (as ++ List.replicate (n - m) .un)) (fnK0 m R)) := by
  unfold fnRun
  rw [oW_ifn, oW_bind]
  have e : ∀ o : Out, W0 (match o with | .nx ρ => some (PV.non, (ρ.take m).map outS) | .rt v ρ => some (v, (ρ.take m).map outS) | _ => none) R = fnK0 m R o := fun o => by
    cases o <;> simp [fnK0]
  unfold An0
  congr 1
  congr 1
  funext o
  exact e o
@[simp] theorem oW_skip : W0 (sSkip ρ) Q = Q (.nx ρ) := oW_some ..
@[simp] theorem oW_seq : W0 (sSeq f g ρ) Q = W0 (f ρ) (outK0 (fun ρ1 => W0 (g ρ1) Q) Q) := by
  unfold sSeq
  rw [oW_bind]
  congr 1
  funext o
  cases o <;> simp [outK0]
@[simp] theorem oW_brk : W0 (sBrk ρ) Q = Q (.bk ρ) := oW_some ..
@[simp] theorem oW_cnt : W0 (sCnt ρ) Q = Q (.ct ρ) := oW_some ..
@[simp] theorem oW_never : W0 (sNever ρ) Q = False := oW_none ..
@[simp] theorem oW_expr (a : M PV) : W0 (sExpr a ρ) Q = W0 (a ρ) fun z => Q (.nx z.2) := by unfold sExpr; rw [oW_bind]; simp only [oW_some]
@[simp] theorem oW_ret (a : M PV) : W0 (sRet a ρ) Q = W0 (a ρ) fun z => Q (.rt z.1 z.2) := by unfold sRet; rw [oW_bind]; simp only [oW_some]
@[simp] theorem oW_sIf (t : M Bool) : W0 (sIf t f g ρ) Q = W0 (t ρ) fun z => Br0 (z.1 = true) (W0 (f z.2) Q) (W0 (g z.2) Q) := by unfold sIf; rw [oW_bind]; simp only [oW_if]
@[simp] theorem oW_asg (t : Tg) (a : M PV) : W0 (sAsg t a ρ) Q = W0 (a ρ) fun z => W0 (t z.1 z.2) fun ρ1 => Q (.nx ρ1) := by unfold sAsg; simp only [oW_bind, oW_some]
/-- two names at once -/
def parK0 (i j : Nat) (Q : Out → Prop) (ρ : Rho) : List PV → Prop
  | [v, w] => W0 (putS i v ρ) fun ρ1 => W0 (putS j w ρ1) fun ρ2 => Q (.nx ρ2)
  | _ => False
@[simp] theorem parK0_two (i j : Nat) (v w : PV) : parK0 i j Q ρ [v, w] = W0 (putS i v ρ) fun ρ1 => W0 (putS j w ρ1) fun ρ2 => Q (.nx ρ2) := rfl
@[simp] theorem oW_par (i j : Nat) (a : M (List Opd)) : W0 (sPar i j a ρ) Q = W0 (a ρ) fun z => W0 (tmVals z.1) fun vs => parK0 i j Q z.2 vs := by
  unfold sPar
  simp only [oW_bind]
  congr 1
  funext z
  congr 1
  funext vs
  match vs with
  | [] => simp [parK0]
  | [v] => simp [parK0]
  | [v, w] => simp [parK0, oW_bind]
  | _ :: _ :: _ :: _ => simp [parK0]
@[simp] theorem oW_aug (i : Nat) (p : PV → PV → Option PV) (a : M PV) : W0 (sAug i p a ρ) Q = W0 ((ρ[i]?).bind Slot.get) fun v0 => An0 (v0.pure = true) (W0 (a ρ) fun z => An0 (z.1.pure = true) (W0 (p v0 z.1) fun r => W0 (putS i r z.2) fun ρ2 => Q (.nx ρ2))) := by
  unfold sAug
  simp only [oW_bind, oW_ifn, oW_some]
/-! ### targets -/
def Slot.loc : Slot → Bool
  | .ref _ => false
  | _ => true
@[simp] theorem oloc_un : Slot.un.loc = true := rfl
@[simp] theorem oloc_val (v : PV) : (Slot.val v).loc = true := rfl
@[simp] theorem oW_put (i : Nat) (v : PV) : W0 (putS i v ρ) RT = W0 (ρ[i]?) fun s => An0 (s.loc = true) (RT (ρ.set i (.val v))) := by
  unfold putS
  rw [oW_bind]
  congr 1
  funext s
  cases s <;> simp [Slot.loc]
@[simp] theorem oW_gNm (i : Nat) (v : PV) : W0 (gNm i v ρ) RT = W0 (putS i v ρ) RT := rfl
@[simp] theorem ogTp_tup (n : Nat) (gs : List PV → Rho → Option Rho) (vs : List PV) : gTp n gs (.tup vs) ρ = if vs.length = n then gs vs ρ else none := rfl
@[simp] theorem oW_gsNil : W0 (gsNil [] ρ) RT = RT ρ := oW_some ..
@[simp] theorem oW_gsCons (t : Tg) (ts : List PV → Rho → Option Rho) (v : PV) (vs : List PV) : W0 (gsCons t ts (v :: vs) ρ) RT = W0 (t v ρ) fun ρ1 => W0 (ts vs ρ1) RT := by unfold gsCons; rw [oW_bind]
@[simp] theorem oW_gIx (n : Nat) (a : M PV) (v : PV) : W0 (gIx n a v ρ) RT = W0 ((ρ[n]?).bind Slot.get) fun _ => W0 (a ρ) fun z => An0 (z.1.pure = true) (W0 ((z.2[n]?).bind Slot.get) fun ob => W0 (psetI ob z.1 v) fun ob' => W0 (chg n ob' z.2) RT) := by
  unfold gIx
  simp only [oW_bind, oW_ifn]
/-! ### expressions -/
@[simp] theorem oW_cBin (p : PV → PV → Option PV) (a b : O) : W0 (cBin p a b ρ) R = W0 (a ρ) fun z1 => W0 (b z1.2) fun z2 => W0 (deref z1.1 z2.2) fun va => W0 (deref z2.1 z2.2) fun vb => W0 (p va vb) fun r => R (r, z2.2) := by unfold cBin; simp only [oW_bind, oW_some]
@[simp] theorem oW_cUn (p : PV → Option PV) (a : O) : W0 (cUn p a ρ) R = W0 (a ρ) fun z1 => W0 (deref z1.1 z1.2) fun va => W0 (p va) fun r => R (r, z1.2) := by unfold cUn; simp only [oW_bind, oW_some]
@[simp] theorem oW_cCall (p : List PV → Option PV) (a : M (List Opd)) : W0 (cCall p a ρ) R = W0 (a ρ) fun z1 => W0 (derefs z1.1 z1.2) fun va => W0 (p va) fun r => R (r, z1.2) := by unfold cCall; simp only [oW_bind, oW_some]
@[simp] theorem oW_cC (v : PV) : W0 (cC v ρ) R = R (v, ρ) := oW_some ..
/-- a name's value, frozen where it must be -/
def frzK0 (ρ : Rho) (i : Nat) (R : PV × Rho → Prop) : Slot → Prop
  | .un => False
  | .val v => Br0 (v.pure = true) (R (v, ρ)) (R (v.frz, ρ.set i (.val v.frz)))
  | .ref v => Br0 (v.pure = true) (R (v, ρ)) (R (v.frz, ρ.set i (.ref v.frz)))
@[simp] theorem frzK0_val (i : Nat) (v : PV) : frzK0 ρ i R (.val v) = Br0 (v.pure = true) (R (v, ρ)) (R (v.frz, ρ.set i (.val v.frz))) := rfl
@[simp] theorem frzK0_ref (i : Nat) (v : PV) : frzK0 ρ i R (.ref v) = Br0 (v.pure = true) (R (v, ρ)) (R (v.frz, ρ.set i (.ref v.frz))) := rfl
@[simp] theorem oW_cName (i : Nat) : W0 (cName i ρ) R = W0 (ρ[i]?) (frzK0 ρ i R) := by
  unfold cName
  rw [oW_bind]
  congr 1
  funext s
  cases s <;> simp [frzK0, oW_if]
@[simp] theorem oW_cNameR (i : Nat) : W0 (cNameR i ρ) R = W0 ((ρ[i]?).bind Slot.get) fun v => An0 (v.pure = true) (R (v, ρ)) := by unfold cNameR; simp only [oW_bind, oW_ifn, oW_some]
def movK0 (ρ : Rho) (i : Nat) (R : PV × Rho → Prop) : Slot → Prop
  | .val v => Br0 (v.pure = true) (R (v, ρ)) (R (v, ρ.set i .un))
  | _ => False
@[simp] theorem movK0_val (i : Nat) (v : PV) : movK0 ρ i R (.val v) = Br0 (v.pure = true) (R (v, ρ)) (R (v, ρ.set i .un)) := rfl
@[simp] theorem oW_cMov (i : Nat) : W0 (cMov i ρ) R = W0 (ρ[i]?) (movK0 ρ i R) := by
  unfold cMov
  rw [oW_bind]
  congr 1
  funext s
  cases s <;> simp [movK0, oW_if]
@[simp] theorem oW_cTup (a : M (List Opd)) : W0 (cTup a ρ) R = W0 (a ρ) fun z => W0 (tmVals z.1) fun vs => An0 (vs.length ≤ 16777216) (R (.tup vs, z.2)) := by unfold cTup; simp only [oW_bind, oW_guard, oW_some]
@[simp] theorem oW_cLst (a : M (List Opd)) : W0 (cLst a ρ) R = W0 (a ρ) fun z => W0 (tmVals z.1) fun vs => An0 (vs.length ≤ 16777216) (R (.lst true vs, z.2)) := by unfold cLst; simp only [oW_bind, oW_guard, oW_some]
@[simp] theorem oW_cSub (a b : O) : W0 (cSub a b ρ) R = W0 (a ρ) fun z1 => W0 (b z1.2) fun z2 => W0 (deref z1.1 z2.2) fun va => W0 (deref z2.1 z2.2) fun vb => W0 (pgetI va vb) fun c => An0 (c.pure = true) (R (c, z2.2)) := by unfold cSub; simp only [oW_bind, oW_ifn, oW_some]
def pkK0 (ρ : Rho) (c : PV) (R : Opd × Rho → Prop) : Opd → Prop
  | .tm _ => False
  | _ => R (.pk c, ρ)
@[simp] theorem pkK0_sl (i : Nat) (c : PV) : pkK0 ρ c RO (.sl i) = RO (.pk c, ρ) := rfl
@[simp] theorem pkK0_pk (v : PV) (c : PV) : pkK0 ρ c RO (.pk v) = RO (.pk c, ρ) := rfl
@[simp] theorem oW_oSub (a b : O) : W0 (oSub a b ρ) RO = W0 (a ρ) fun z1 => W0 (b z1.2) fun z2 => W0 (deref z1.1 z2.2) fun va => W0 (deref z2.1 z2.2) fun vb => W0 (pgetI va vb) fun c => Br0 (c.pure = true) (RO (.tm c, z2.2)) (pkK0 z2.2 c RO z1.1) := by
  unfold oSub
  simp only [oW_bind, oW_if, oW_some]
  congr 1
  funext z1
  congr 1
  funext z2
  congr 1
  funext va
  congr 1
  funext vb
  congr 1
  funext c
  congr 1
  cases z1.1 <;> simp [pkK0]
@[simp] theorem oW_cSubM (a : M PV) (b : O) : W0 (cSubM a b ρ) R = W0 (a ρ) fun z1 => W0 (b z1.2) fun z2 => W0 (deref z2.1 z2.2) fun vb => W0 (pgetI z1.1 vb) fun c => R (c, z2.2) := by unfold cSubM; simp only [oW_bind, oW_some]
@[simp] theorem oW_cSl (a : O) (lo hi : M (Option Int)) : W0 (cSl a lo hi ρ) R = W0 (a ρ) fun z1 => W0 (lo z1.2) fun z2 => W0 (hi z2.2) fun z3 => W0 (deref z1.1 z3.2) fun va => W0 (psl va z2.1 z3.1) fun r => R (r, z3.2) := by unfold cSl; simp only [oW_bind, oW_some]
@[simp] theorem oW_cIf (t : M Bool) (a b : M PV) : W0 (cIf t a b ρ) R = W0 (t ρ) fun z => Br0 (z.1 = true) (W0 (a z.2) R) (W0 (b z.2) R) := by unfold cIf; simp only [oW_bind, oW_if]
@[simp] theorem oW_cAnd (a b : M PV) : W0 (cAnd a b ρ) R = W0 (a ρ) fun z => W0 (asB z.1) fun k => Br0 (k = true) (W0 (b z.2) R) (R (.bl false, z.2)) := by unfold cAnd; simp only [oW_bind, oW_if, oW_some]
@[simp] theorem oW_cOr (a b : M PV) : W0 (cOr a b ρ) R = W0 (a ρ) fun z => W0 (asB z.1) fun k => Br0 (k = true) (R (.bl true, z.2)) (W0 (b z.2) R) := by unfold cOr; simp only [oW_bind, oW_if, oW_some]
@[simp] theorem oW_cNot (a : M PV) : W0 (cNot a ρ) R = W0 (a ρ) fun z => W0 (asB z.1) fun k => R (.bl (!k), z.2) := by unfold cNot; simp only [oW_bind, oW_some]
@[simp] theorem oW_cChain (p p' : PV → PV → Option PV) (a b c : O) : W0 (cChain p p' a b c ρ) R = W0 (a ρ) fun z1 => W0 (b z1.2) fun z2 => W0 (deref z1.1 z2.2) fun va => W0 (deref z2.1 z2.2) fun vb => W0 (p va vb) fun r => W0 (asB r) fun k =>
    Br0 (k = true) (W0 (c z2.2) fun z3 => W0 (deref z2.1 z3.2) fun vb' => W0 (deref z3.1 z3.2) fun vc => W0 (p' vb' vc) fun r' => R (r', z3.2)) (R (.bl false, z2.2)) := by unfold cChain; simp only [oW_bind, oW_if, oW_some]
@[simp] theorem oW_mVal (a : M PV) : W0 (mVal a ρ) RB = W0 (a ρ) fun z => W0 (asB z.1) fun k => RB (k, z.2) := by unfold mVal; simp only [oW_bind, oW_some]
@[simp] theorem oW_mAnd (a b : M Bool) : W0 (mAnd a b ρ) RB = W0 (a ρ) fun z => Br0 (z.1 = true) (W0 (b z.2) RB) (RB (false, z.2)) := by unfold mAnd; simp only [oW_bind, oW_if, oW_some]
@[simp] theorem oW_mOr (a b : M Bool) : W0 (mOr a b ρ) RB = W0 (a ρ) fun z => Br0 (z.1 = true) (RB (true, z.2)) (W0 (b z.2) RB) := by unfold mOr; simp only [oW_bind, oW_if, oW_some]
@[simp] theorem oW_mNot (a : M Bool) : W0 (mNot a ρ) RB = W0 (a ρ) fun z => RB (!z.1, z.2) := by unfold mNot; simp only [oW_bind, oW_some]
@[simp] theorem oW_mTru (a : O) : W0 (mTru a ρ) RB = W0 (a ρ) fun z => W0 (deref z.1 z.2) fun v => W0 (ptru v) fun k => RB (k, z.2) := by unfold mTru; simp only [oW_bind, oW_some]
@[simp] theorem oW_mYes : W0 (mYes ρ) RB = RB (true, ρ) := oW_some ..
@[simp] theorem oW_mNo : W0 (mNo ρ) RI = RI (none, ρ) := oW_some ..
@[simp] theorem oW_mSome (a : M PV) : W0 (mSome a ρ) RI = W0 (a ρ) fun z => W0 (asI z.1) fun i => RI (some i, z.2) := by unfold mSome; simp only [oW_bind, oW_some]
@[simp] theorem oW_oSl (i : Nat) : W0 (oSl i ρ) RO = W0 ((ρ[i]?).bind Slot.get) fun _ => RO (.sl i, ρ) := by unfold oSl; simp only [oW_bind, oW_some]
@[simp] theorem oW_oTm (a : M PV) : W0 (oTm a ρ) RO = W0 (a ρ) fun z => RO (.tm z.1, z.2) := by unfold oTm; simp only [oW_bind, oW_some]
@[simp] theorem oW_oNil : W0 (oNil ρ) RA = RA ([], ρ) := oW_some ..
@[simp] theorem oW_oCons (a : O) (b : M (List Opd)) : W0 (oCons a b ρ) RA = W0 (a ρ) fun z => W0 (b z.2) fun z2 => RA (z.1 :: z2.1, z2.2) := by unfold oCons; simp only [oW_bind, oW_some]
@[simp] theorem oderef_tm (v : PV) : deref (.tm v) ρ = some v := rfl
@[simp] theorem oderef_pk (v : PV) : deref (.pk v) ρ = some v := rfl
@[simp] theorem oderef_sl (i : Nat) : deref (.sl i) ρ = (ρ[i]?).bind Slot.get := rfl
@[simp] theorem oderefs_nil : derefs [] ρ = some [] := rfl
@[simp] theorem oW_derefs (o : Opd) (os : List Opd) : W0 (derefs (o :: os) ρ) RPs = W0 (deref o ρ) fun v => W0 (derefs os ρ) fun vs => RPs (v :: vs) := by rw [derefs]; simp only [oW_bind, oW_some]
@[simp] theorem otmVals_nil : tmVals [] = some [] := rfl
@[simp] theorem oW_tmVals (v : PV) (os : List Opd) : W0 (tmVals (.tm v :: os)) RPs = W0 (tmVals os) fun vs => RPs (v :: vs) := by rw [tmVals]; simp only [oW_bind, oW_some]
@[simp] theorem oget_un : Slot.un.get = none := rfl
@[simp] theorem oget_val (v : PV) : (Slot.val v).get = some v := rfl
@[simp] theorem oget_ref (v : PV) : (Slot.ref v).get = some v := rfl
@[simp] theorem oasB_bl (b : Bool) : asB (.bl b) = some b := rfl
@[simp] theorem oasI_int (b : Int) : asI (.int b) = some b := rfl
def chgK0 (ρ : Rho) (i : Nat) (v : PV) (R : Rho → Prop) : Slot → Prop
  | .val _ => R (ρ.set i (.val v))
  | .ref _ => R (ρ.set i (.ref v))
  | .un => False
@[simp] theorem chgK0_val (i : Nat) (v w : PV) : chgK0 ρ i v RT (.val w) = RT (ρ.set i (.val v)) := rfl
@[simp] theorem chgK0_ref (i : Nat) (v w : PV) : chgK0 ρ i v RT (.ref w) = RT (ρ.set i (.ref v)) := rfl
@[simp] theorem oW_chg (i : Nat) (v : PV) : W0 (chg i v ρ) RT = W0 (ρ[i]?) (chgK0 ρ i v RT) := by
  unfold chg
  rw [oW_bind]
  congr 1
  funext s
  cases s <;> simp [chgK0]
@[simp] theorem oW_cMut (i : Nat) (T : String) (p : PV → List PV → Option (PV × PV)) (a : M (List Opd)) : W0 (cMut i T p a ρ) R = W0 ((ρ[i]?).bind Slot.get) fun ob0 => An0 (kindP ob0 = T) (W0 (a ρ) fun z => W0 (tmVals z.1) fun vs => W0 ((z.2[i]?).bind Slot.get) fun ob => W0 (p ob vs) fun w => An0 (w.2.pure = true) (W0 (chg i w.1 z.2) fun ρ2 => R (w.2, ρ2))) := by
  unfold cMut
  simp only [oW_bind, oW_ifn, oW_some]
@[simp] theorem okindP_lst (xs : List PV) : kindP (.lst true xs) = "list" := rfl
@[simp] theorem okindP_dic (xs : List (Key × PV)) : kindP (.dic true xs) = "dict" := rfl
/-! ### calls -/
def givK0 (os : List Opd) (ρ : Rho) (i : Nat) (R : List Slot × Rho → Prop) : Slot → Prop
  | .un => False
  | .val v => Br0 (v.pure = true) (W0 (giveL os ρ) fun r => R (.val v :: r.1, r.2)) (W0 (giveL os (ρ.set i .un)) fun r => R (.ref v :: r.1, r.2))
  | .ref v => Br0 (v.pure = true) (W0 (giveL os ρ) fun r => R (.val v :: r.1, r.2)) (W0 (giveL os (ρ.set i .un)) fun r => R (.ref v :: r.1, r.2))
variable {RG : List Slot × Rho → Prop}
@[simp] theorem givK0_val (os : List Opd) (i : Nat) (v : PV) : givK0 os ρ i RG (.val v) = Br0 (v.pure = true) (W0 (giveL os ρ) fun r => RG (.val v :: r.1, r.2)) (W0 (giveL os (ρ.set i .un)) fun r => RG (.ref v :: r.1, r.2)) := rfl
@[simp] theorem givK0_ref (os : List Opd) (i : Nat) (v : PV) : givK0 os ρ i RG (.ref v) = Br0 (v.pure = true) (W0 (giveL os ρ) fun r => RG (.val v :: r.1, r.2)) (W0 (giveL os (ρ.set i .un)) fun r => RG (.ref v :: r.1, r.2)) := rfl
@[simp] theorem oW_give_nil : W0 (giveL [] ρ) RG = RG ([], ρ) := oW_some ..
@[simp] theorem oW_give_tm (v : PV) (os : List Opd) : W0 (giveL (.tm v :: os) ρ) RG = W0 (giveL os ρ) fun r => RG (.val v :: r.1, r.2) := by rw [giveL]; simp only [oW_bind, oW_some]
@[simp] theorem oW_give_sl (i : Nat) (os : List Opd) : W0 (giveL (.sl i :: os) ρ) RG = W0 (ρ[i]?) (givK0 os ρ i RG) := by
  rw [giveL, oW_bind]
  congr 1
  funext s
  cases s <;> simp [givK0, oW_if, oW_bind]
def takK0 (os : List Opd) (as ts : List Slot) (ρ0 ρ : Rho) (i : Nat) (v : PV) (R : Rho → Prop) : Slot → Prop
  | .un => False
  | .val _ => W0 (takeL os as ts ρ0 (ρ.set i (.val v))) R
  | .ref _ => W0 (takeL os as ts ρ0 (ρ.set i (.ref v))) R
@[simp] theorem takK0_val (os : List Opd) (as ts : List Slot) (ρ0 : Rho) (i : Nat) (v w : PV) : takK0 os as ts ρ0 ρ i v RT (.val w) = W0 (takeL os as ts ρ0 (ρ.set i (.val v))) RT := rfl
@[simp] theorem takK0_ref (os : List Opd) (as ts : List Slot) (ρ0 : Rho) (i : Nat) (v w : PV) : takK0 os as ts ρ0 ρ i v RT (.ref w) = W0 (takeL os as ts ρ0 (ρ.set i (.ref v))) RT := rfl
@[simp] theorem oW_take_nil (as ts : List Slot) (ρ0 : Rho) : W0 (takeL [] as ts ρ0 ρ) RT = RT ρ := by rw [takeL]; simp
@[simp] theorem oW_take_ref (os : List Opd) (as ts : List Slot) (ρ0 : Rho) (i : Nat) (v w : PV) : W0 (takeL (.sl i :: os) (.ref w :: as) (.ref v :: ts) ρ0 ρ) RT = W0 (ρ0[i]?) (takK0 os as ts ρ0 ρ i v RT) := by
  rw [takeL, oW_bind]
  congr 1
  funext s
  cases s <;> simp [takK0]
@[simp] theorem oW_take_val (o : Opd) (os : List Opd) (as ts : List Slot) (ρ0 : Rho) (w : PV) (t : Slot) : W0 (takeL (o :: os) (.val w :: as) (t :: ts) ρ0 ρ) RT = W0 (takeL os as ts ρ0 ρ) RT := by
  cases o <;> simp [takeL]
@[simp] theorem oW_cFn (F : Fn) (dvs : List PV) (a : M (List Opd)) : W0 (cFn F dvs a ρ) R = W0 (a ρ) fun z => W0 (giveL z.1 z.2) fun g => W0 (F (g.1 ++ dvs.map .val)) fun r => W0 (takeL z.1 g.1 r.2 z.2 g.2) fun ρ2 => R (r.1, ρ2) := by unfold cFn; simp only [oW_bind, oW_some]
/-! ### what is walked -/
@[simp] theorem oW_iVal (a : M PV) : W0 (iVal a ρ) RL = W0 (a ρ) fun z => W0 (itemsOf z.1) fun xs => RL (xs, z.2) := by unfold iVal; simp only [oW_bind, oW_some]
@[simp] theorem oW_iCall (p : List PV → Option (List PV)) (a : M (List Opd)) : W0 (iCall p a ρ) RL = W0 (a ρ) fun z => W0 (derefs z.1 z.2) fun vs => W0 (p vs) fun r => RL (r, z.2) := by unfold iCall; simp only [oW_bind, oW_some]
@[simp] theorem oitemsOf_tup (xs : List PV) : itemsOf (.tup xs) = some xs := rfl
@[simp] theorem oitemsOf_lst (o : Bool) (xs : List PV) : itemsOf (.lst o xs) = some xs := rfl
@[simp] theorem oitemsOf_zls (xs : List PV) : itemsOf (.zls xs) = some xs := rfl
@[simp] theorem oW_sFor (i : M (List PV)) (t : Tg) (b : S) : W0 (sFor i t b ρ) Q = W0 (i ρ) fun z => W0 (forL t b z.1 z.2) Q := by unfold sFor; simp only [oW_bind]
@[simp] theorem oW_cComp (vs : List Nat) (i : M (List PV)) (t : Tg) (c : M Bool) (e : M PV) : W0 (cComp vs i t c e ρ) R = W0 (i ρ) fun z => An0 (pureW vs 0 z.2 = true) (An0 (z.1.length ≤ 16777216) (W0 (compL vs t c e z.1 (mskR vs 0 z.2)) fun r => R (.lst true r.1, bckR vs 0 r.2 z.2))) := by
  unfold cComp
  rw [oW_bind]
  congr 1
  funext z
  rw [oW_ifn, oW_bind]
  simp only [oW_some, Bool.and_eq_true, decide_eq_true_eq]
  unfold An0
  exact propext ⟨fun ⟨⟨a, b⟩, c⟩ => ⟨a, b, c⟩, fun ⟨a, b, c⟩ => ⟨⟨a, b⟩, c⟩⟩
end
section
variable {ρ : Rho} {vs : List Nat} {t : Tg} {c : M Bool} {e : M PV} {b : S}
theorem oW_forCons {R : Out → Prop} (x : PV) (xs : List PV) : W0 (forL t b (x :: xs) ρ) R = An0 (x.pure = true) (W0 (t x ρ) fun ρ1 => W0 (b ρ1) (lopK0 (fun ρ2 => W0 (forL t b xs ρ2) R) R)) := by
  rw [forL, oW_ifn]
  simp only [oW_bind]
  congr 2
  funext ρ1
  congr 1
  funext o
  cases o <;> simp [lopK0]
theorem oW_compCons {R : List PV × Rho → Prop} (x : PV) (xs : List PV) : W0 (compL vs t c e (x :: xs) ρ) R = An0 (x.pure = true) (W0 (t x ρ) fun ρ1 => W0 (c ρ1) fun z => Br0 (z.1 = true) (W0 (e z.2) fun y => W0 (compL vs t c e xs (mskR vs 0 y.2)) fun r => R (y.1 :: r.1, r.2)) (W0 (compL vs t c e xs (mskR vs 0 z.2)) R)) := by
  rw [compL, oW_ifn]
  simp only [oW_bind, oW_if, oW_some]
end
end GX

/-! GX: how the shallow programs run: weakest preconditions by simp. -/
namespace GX
open PySem PySem.Spec PyProof.Rows L2

/-- what comes behind; simp does not look into it -/
class Ct (α : Type) where
  q : α → Prop
class Pr where
  p : Prop
/-- m ends with a value that has Q -/
def W {α : Type} (m : Option α) [Q : Ct α] : Prop := ∃ a, m = some a ∧ Q.q a
@[simp] theorem W_some {α : Type} (a : α) (Q : α → Prop) : W (some a) (Q := ⟨Q⟩) = Q a := propext ⟨fun ⟨_, e, q⟩ => (by cases e; exact q), fun q => ⟨a, rfl, q⟩⟩
@[simp] theorem W_none {α : Type} (Q : α → Prop) : W none (Q := ⟨Q⟩) = False := propext ⟨fun ⟨_, e, _⟩ => (by cases e), False.elim⟩
theorem W_bind {α β : Type} (m : Option α) (f : α → Option β) (Q : β → Prop) : W (m.bind f) (Q := ⟨Q⟩) = W m (Q := ⟨fun a => W (f a) (Q := ⟨Q⟩)⟩) := propext
  ⟨fun ⟨b, e, q⟩ => by obtain ⟨a, e1, e2⟩ := bind_some e; exact ⟨a, e1, b, e2, q⟩, fun ⟨a, e1, b, e2, q⟩ => ⟨b, by rw [e1]; exact e2, q⟩⟩
theorem W.mono {α : Type} {m : Option α} {P Q : α → Prop} (h : W m (Q := ⟨P⟩)) (k : ∀ a, P a → Q a) : W m (Q := ⟨Q⟩) := let ⟨a, e, p⟩ := h; ⟨a, e, k a p⟩
theorem W.ex {α : Type} {m : Option α} {P : α → Prop} (h : W m (Q := ⟨P⟩)) : ∃ a, m = some a ∧ P a := h
theorem W_eq {α : Type} {m : Option α} {a : α} : W m (Q := ⟨fun z => z = a⟩) = (m = some a) := propext ⟨fun ⟨_, e, q⟩ => by rw [e, q], fun e => ⟨a, e, rfl⟩⟩
theorem eq_W {α : Type} {m : Option α} {a : α} (h : W m (Q := ⟨fun z => z = a⟩)) : m = some a := W_eq ▸ h
theorem W_ofEq {α : Type} {m : Option α} {a : α} {Q : α → Prop} (h : m = some a) (q : Q a) : W m (Q := ⟨Q⟩) := ⟨a, h, q⟩
/-- a branch -/
def Br (c : Prop) [x : Pr] [y : Pr] : Prop := (c → x.p) ∧ (¬c → y.p)
@[simp] theorem Br_true (x y : Prop) : Br True (x := ⟨x⟩) (y := ⟨y⟩) = x := propext ⟨fun h => h.1 trivial, fun h => ⟨fun _ => h, fun n => absurd trivial n⟩⟩
@[simp] theorem Br_false (x y : Prop) : Br False (x := ⟨x⟩) (y := ⟨y⟩) = y := propext ⟨fun h => h.2 id, fun h => ⟨False.elim, fun _ => h⟩⟩
theorem Br.mk {c x y : Prop} (h : c → x) (k : ¬c → y) : Br c (x := ⟨x⟩) (y := ⟨y⟩) := ⟨h, k⟩
/-- a side condition -/
def An (c : Prop) [x : Pr] : Prop := c ∧ x.p
@[simp] theorem An_true (x : Prop) : An True (x := ⟨x⟩) = x := propext ⟨fun h => h.2, fun h => ⟨trivial, h⟩⟩
@[simp] theorem An_false (x : Prop) : An False (x := ⟨x⟩) = False := propext ⟨fun h => h.1, fun h => h.elim⟩
theorem An.mk {c x : Prop} (h : c) (k : x) : An c (x := ⟨x⟩) := ⟨h, k⟩
theorem W_if {α : Type} (c : Prop) [Decidable c] (a b : Option α) (Q : α → Prop) : W (if c then a else b) (Q := ⟨Q⟩) = Br c (x := ⟨W a (Q := ⟨Q⟩)⟩) (y := ⟨W b (Q := ⟨Q⟩)⟩) := propext (by
  by_cases h : c
  · simp only [if_pos h]; exact ⟨fun q => ⟨fun _ => q, fun n => absurd h n⟩, fun q => q.1 h⟩
  · simp only [if_neg h]; exact ⟨fun q => ⟨fun n => absurd n h, fun _ => q⟩, fun q => q.2 h⟩)
theorem W_ifn {α : Type} (c : Prop) [Decidable c] (a : Option α) (Q : α → Prop) : W (if c then a else none) (Q := ⟨Q⟩) = An c (x := ⟨W a (Q := ⟨Q⟩)⟩) := propext (by
  by_cases h : c
  · simp only [if_pos h]; exact ⟨fun q => ⟨h, q⟩, fun q => q.2⟩
  · simp only [if_neg h, W_none]; exact ⟨False.elim, fun q => h q.1⟩)
theorem W_guard {α : Type} (c : Prop) [Decidable c] (a : Option α) (Q : α → Prop) : W (guard c a) (Q := ⟨Q⟩) = An c (x := ⟨W a (Q := ⟨Q⟩)⟩) := W_ifn c a Q
@[simp] theorem W_map {α β : Type} (m : Option α) (f : α → β) (Q : β → Prop) : W (m.map f) (Q := ⟨Q⟩) = W m (Q := ⟨fun a => Q (f a)⟩) := by cases m <;> simp
/-- behind a statement -/
def outK (k : Rho → Prop) (Q : Out → Prop) : Out → Prop
  | .nx ρ => k ρ
  | o => Q o
@[simp] theorem outK_nx (k : Rho → Prop) (Q : Out → Prop) (ρ : Rho) : outK k Q (.nx ρ) = k ρ := rfl
@[simp] theorem outK_bk (k : Rho → Prop) (Q : Out → Prop) (ρ : Rho) : outK k Q (.bk ρ) = Q (.bk ρ) := rfl
@[simp] theorem outK_ct (k : Rho → Prop) (Q : Out → Prop) (ρ : Rho) : outK k Q (.ct ρ) = Q (.ct ρ) := rfl
@[simp] theorem outK_rt (k : Rho → Prop) (Q : Out → Prop) (v : PV) (ρ : Rho) : outK k Q (.rt v ρ) = Q (.rt v ρ) := rfl
/-- behind a loop's body -/
def lopK (k : Rho → Prop) (Q : Out → Prop) : Out → Prop
  | .nx ρ => k ρ
  | .ct ρ => k ρ
  | .bk ρ => Q (.nx ρ)
  | .rt v ρ => Q (.rt v ρ)
@[simp] theorem lopK_nx (k : Rho → Prop) (Q : Out → Prop) (ρ : Rho) : lopK k Q (.nx ρ) = k ρ := rfl
@[simp] theorem lopK_ct (k : Rho → Prop) (Q : Out → Prop) (ρ : Rho) : lopK k Q (.ct ρ) = k ρ := rfl
@[simp] theorem lopK_bk (k : Rho → Prop) (Q : Out → Prop) (ρ : Rho) : lopK k Q (.bk ρ) = Q (.nx ρ) := rfl
@[simp] theorem lopK_rt (k : Rho → Prop) (Q : Out → Prop) (v : PV) (ρ : Rho) : lopK k Q (.rt v ρ) = Q (.rt v ρ) := rfl
/-- behind a def's body -/
def fnK (m : Nat) (Q : PV × List Slot → Prop) : Out → Prop
  | .nx ρ => Q (.non, (ρ.take m).map outS)
  | .rt v ρ => Q (v, (ρ.take m).map outS)
  | _ => False
@[simp] theorem fnK_nx (m : Nat) (Q : PV × List Slot → Prop) (ρ : Rho) : fnK m Q (.nx ρ) = Q (.non, (ρ.take m).map outS) := rfl
@[simp] theorem fnK_rt (m : Nat) (Q : PV × List Slot → Prop) (v : PV) (ρ : Rho) : fnK m Q (.rt v ρ) = Q (v, (ρ.take m).map outS) := rfl
@[simp] theorem outS_un : outS .un = .un := rfl
@[simp] theorem outS_val (v : PV) : outS (.val v) = .un := rfl
@[simp] theorem outS_ref (v : PV) : outS (.ref v) = .ref v := rfl
section
variable {ρ : Rho} {f g : S} {Q : Out → Prop} {R : PV × Rho → Prop} {RO : Opd × Rho → Prop} {RA : List Opd × Rho → Prop} {RB : Bool × Rho → Prop} {RI : Option Int × Rho → Prop} {RL : List PV × Rho → Prop} {RT : Rho → Prop} {RP : PV → Prop} {RPs : List PV → Prop}
theorem W_fn (n m : Nat) (b : S) (as : List Slot) : W (fnRun n m b as) (Q := ⟨R⟩) = An (as.length = m) (x := ⟨(W (b (as ++ List.replicate (n - m) .un)) (Q := ⟨(fnK m R)⟩))⟩) := by exact oW_fn ..
@[simp] theorem W_skip : W (sSkip ρ) (Q := ⟨Q⟩) = Q (.nx ρ) := by exact oW_skip ..
@[simp] theorem W_seq : W (sSeq f g ρ) (Q := ⟨Q⟩) = W (f ρ) (Q := ⟨(outK (fun ρ1 => W (g ρ1) (Q := ⟨Q⟩)) Q)⟩) := by exact oW_seq ..
@[simp] theorem W_brk : W (sBrk ρ) (Q := ⟨Q⟩) = Q (.bk ρ) := by exact oW_brk ..
@[simp] theorem W_cnt : W (sCnt ρ) (Q := ⟨Q⟩) = Q (.ct ρ) := by exact oW_cnt ..
@[simp] theorem W_never : W (sNever ρ) (Q := ⟨Q⟩) = False := by exact oW_never ..
@[simp] theorem W_expr (a : M PV) : W (sExpr a ρ) (Q := ⟨Q⟩) = W (a ρ) (Q := ⟨fun z => Q (.nx z.2)⟩) := by exact oW_expr ..
@[simp] theorem W_ret (a : M PV) : W (sRet a ρ) (Q := ⟨Q⟩) = W (a ρ) (Q := ⟨fun z => Q (.rt z.1 z.2)⟩) := by exact oW_ret ..
@[simp] theorem W_sIf (t : M Bool) : W (sIf t f g ρ) (Q := ⟨Q⟩) = W (t ρ) (Q := ⟨fun z => Br (z.1 = true) (x := ⟨(W (f z.2) (Q := ⟨Q⟩))⟩) (y := ⟨(W (g z.2) (Q := ⟨Q⟩))⟩)⟩) := by exact oW_sIf ..
@[simp] theorem W_asg (t : Tg) (a : M PV) : W (sAsg t a ρ) (Q := ⟨Q⟩) = W (a ρ) (Q := ⟨fun z => W (t z.1 z.2) (Q := ⟨fun ρ1 => Q (.nx ρ1)⟩)⟩) := by exact oW_asg ..
/-- two names at once -/
def parK (i j : Nat) (Q : Out → Prop) (ρ : Rho) : List PV → Prop
  | [v, w] => W (putS i v ρ) (Q := ⟨fun ρ1 => W (putS j w ρ1) (Q := ⟨fun ρ2 => Q (.nx ρ2)⟩)⟩)
  | _ => False
@[simp] theorem parK_two (i j : Nat) (v w : PV) : parK i j Q ρ [v, w] = W (putS i v ρ) (Q := ⟨fun ρ1 => W (putS j w ρ1) (Q := ⟨fun ρ2 => Q (.nx ρ2)⟩)⟩) := rfl
@[simp] theorem W_par (i j : Nat) (a : M (List Opd)) : W (sPar i j a ρ) (Q := ⟨Q⟩) = W (a ρ) (Q := ⟨fun z => W (tmVals z.1) (Q := ⟨fun vs => parK i j Q z.2 vs⟩)⟩) := by exact oW_par ..
@[simp] theorem W_aug (i : Nat) (p : PV → PV → Option PV) (a : M PV) : W (sAug i p a ρ) (Q := ⟨Q⟩) = W ((ρ[i]?).bind Slot.get) (Q := ⟨fun v0 => An (v0.pure = true) (x := ⟨(W (a ρ) (Q := ⟨fun z => An (z.1.pure = true) (x := ⟨(W (p v0 z.1) (Q := ⟨fun r => W (putS i r z.2) (Q := ⟨fun ρ2 => Q (.nx ρ2)⟩)⟩))⟩)⟩))⟩)⟩) := by exact oW_aug ..
/-! ### targets -/
@[simp] theorem loc_un : Slot.un.loc = true := rfl
@[simp] theorem loc_val (v : PV) : (Slot.val v).loc = true := rfl
@[simp] theorem W_put (i : Nat) (v : PV) : W (putS i v ρ) (Q := ⟨RT⟩) = W (ρ[i]?) (Q := ⟨fun s => An (s.loc = true) (x := ⟨(RT (ρ.set i (.val v)))⟩)⟩) := by exact oW_put ..
@[simp] theorem W_gNm (i : Nat) (v : PV) : W (gNm i v ρ) (Q := ⟨RT⟩) = W (putS i v ρ) (Q := ⟨RT⟩) := by exact oW_gNm ..
@[simp] theorem gTp_tup (n : Nat) (gs : List PV → Rho → Option Rho) (vs : List PV) : gTp n gs (.tup vs) ρ = if vs.length = n then gs vs ρ else none := rfl
@[simp] theorem W_gsNil : W (gsNil [] ρ) (Q := ⟨RT⟩) = RT ρ := by exact oW_gsNil ..
@[simp] theorem W_gsCons (t : Tg) (ts : List PV → Rho → Option Rho) (v : PV) (vs : List PV) : W (gsCons t ts (v :: vs) ρ) (Q := ⟨RT⟩) = W (t v ρ) (Q := ⟨fun ρ1 => W (ts vs ρ1) (Q := ⟨RT⟩)⟩) := by exact oW_gsCons ..
@[simp] theorem W_gIx (n : Nat) (a : M PV) (v : PV) : W (gIx n a v ρ) (Q := ⟨RT⟩) = W ((ρ[n]?).bind Slot.get) (Q := ⟨fun _ => W (a ρ) (Q := ⟨fun z => An (z.1.pure = true) (x := ⟨(W ((z.2[n]?).bind Slot.get) (Q := ⟨fun ob => W (psetI ob z.1 v) (Q := ⟨fun ob' => W (chg n ob' z.2) (Q := ⟨RT⟩)⟩)⟩))⟩)⟩)⟩) := by exact oW_gIx ..
/-! ### expressions -/
@[simp] theorem W_cBin (p : PV → PV → Option PV) (a b : O) : W (cBin p a b ρ) (Q := ⟨R⟩) = W (a ρ) (Q := ⟨fun z1 => W (b z1.2) (Q := ⟨fun z2 => W (deref z1.1 z2.2) (Q := ⟨fun va => W (deref z2.1 z2.2) (Q := ⟨fun vb => W (p va vb) (Q := ⟨fun r => R (r, z2.2)⟩)⟩)⟩)⟩)⟩) := by exact oW_cBin ..
@[simp] theorem W_cUn (p : PV → Option PV) (a : O) : W (cUn p a ρ) (Q := ⟨R⟩) = W (a ρ) (Q := ⟨fun z1 => W (deref z1.1 z1.2) (Q := ⟨fun va => W (p va) (Q := ⟨fun r => R (r, z1.2)⟩)⟩)⟩) := by exact oW_cUn ..
@[simp] theorem W_cCall (p : List PV → Option PV) (a : M (List Opd)) : W (cCall p a ρ) (Q := ⟨R⟩) = W (a ρ) (Q := ⟨fun z1 => W (derefs z1.1 z1.2) (Q := ⟨fun va => W (p va) (Q := ⟨fun r => R (r, z1.2)⟩)⟩)⟩) := by exact oW_cCall ..
@[simp] theorem W_cC (v : PV) : W (cC v ρ) (Q := ⟨R⟩) = R (v, ρ) := by exact oW_cC ..
/-- a name's value, frozen where it must be -/
def frzK (ρ : Rho) (i : Nat) (R : PV × Rho → Prop) : Slot → Prop
  | .un => False
  | .val v => Br (v.pure = true) (x := ⟨(R (v, ρ))⟩) (y := ⟨(R (v.frz, ρ.set i (.val v.frz)))⟩)
  | .ref v => Br (v.pure = true) (x := ⟨(R (v, ρ))⟩) (y := ⟨(R (v.frz, ρ.set i (.ref v.frz)))⟩)
@[simp] theorem frzK_val (i : Nat) (v : PV) : frzK ρ i R (.val v) = Br (v.pure = true) (x := ⟨(R (v, ρ))⟩) (y := ⟨(R (v.frz, ρ.set i (.val v.frz)))⟩) := rfl
@[simp] theorem frzK_ref (i : Nat) (v : PV) : frzK ρ i R (.ref v) = Br (v.pure = true) (x := ⟨(R (v, ρ))⟩) (y := ⟨(R (v.frz, ρ.set i (.ref v.frz)))⟩) := rfl
@[simp] theorem W_cName (i : Nat) : W (cName i ρ) (Q := ⟨R⟩) = W (ρ[i]?) (Q := ⟨(frzK ρ i R)⟩) := by exact oW_cName ..
@[simp] theorem W_cNameR (i : Nat) : W (cNameR i ρ) (Q := ⟨R⟩) = W ((ρ[i]?).bind Slot.get) (Q := ⟨fun v => An (v.pure = true) (x := ⟨(R (v, ρ))⟩)⟩) := by exact oW_cNameR ..
def movK (ρ : Rho) (i : Nat) (R : PV × Rho → Prop) : Slot → Prop
  | .val v => Br (v.pure = true) (x := ⟨(R (v, ρ))⟩) (y := ⟨(R (v, ρ.set i .un))⟩)
  | _ => False
@[simp] theorem movK_val (i : Nat) (v : PV) : movK ρ i R (.val v) = Br (v.pure = true) (x := ⟨(R (v, ρ))⟩) (y := ⟨(R (v, ρ.set i .un))⟩) := rfl
@[simp] theorem W_cMov (i : Nat) : W (cMov i ρ) (Q := ⟨R⟩) = W (ρ[i]?) (Q := ⟨(movK ρ i R)⟩) := by exact oW_cMov ..
@[simp] theorem W_cTup (a : M (List Opd)) : W (cTup a ρ) (Q := ⟨R⟩) = W (a ρ) (Q := ⟨fun z => W (tmVals z.1) (Q := ⟨fun vs => An (vs.length ≤ 16777216) (x := ⟨(R (.tup vs, z.2))⟩)⟩)⟩) := by exact oW_cTup ..
@[simp] theorem W_cLst (a : M (List Opd)) : W (cLst a ρ) (Q := ⟨R⟩) = W (a ρ) (Q := ⟨fun z => W (tmVals z.1) (Q := ⟨fun vs => An (vs.length ≤ 16777216) (x := ⟨(R (.lst true vs, z.2))⟩)⟩)⟩) := by exact oW_cLst ..
@[simp] theorem W_cSub (a b : O) : W (cSub a b ρ) (Q := ⟨R⟩) = W (a ρ) (Q := ⟨fun z1 => W (b z1.2) (Q := ⟨fun z2 => W (deref z1.1 z2.2) (Q := ⟨fun va => W (deref z2.1 z2.2) (Q := ⟨fun vb => W (pgetI va vb) (Q := ⟨fun c => An (c.pure = true) (x := ⟨(R (c, z2.2))⟩)⟩)⟩)⟩)⟩)⟩) := by exact oW_cSub ..
def pkK (ρ : Rho) (c : PV) (R : Opd × Rho → Prop) : Opd → Prop
  | .tm _ => False
  | _ => R (.pk c, ρ)
@[simp] theorem pkK_sl (i : Nat) (c : PV) : pkK ρ c RO (.sl i) = RO (.pk c, ρ) := rfl
@[simp] theorem pkK_pk (v : PV) (c : PV) : pkK ρ c RO (.pk v) = RO (.pk c, ρ) := rfl
@[simp] theorem W_oSub (a b : O) : W (oSub a b ρ) (Q := ⟨RO⟩) = W (a ρ) (Q := ⟨fun z1 => W (b z1.2) (Q := ⟨fun z2 => W (deref z1.1 z2.2) (Q := ⟨fun va => W (deref z2.1 z2.2) (Q := ⟨fun vb => W (pgetI va vb) (Q := ⟨fun c => Br (c.pure = true) (x := ⟨(RO (.tm c, z2.2))⟩) (y := ⟨(pkK z2.2 c RO z1.1)⟩)⟩)⟩)⟩)⟩)⟩) := by exact oW_oSub ..
@[simp] theorem W_cSubM (a : M PV) (b : O) : W (cSubM a b ρ) (Q := ⟨R⟩) = W (a ρ) (Q := ⟨fun z1 => W (b z1.2) (Q := ⟨fun z2 => W (deref z2.1 z2.2) (Q := ⟨fun vb => W (pgetI z1.1 vb) (Q := ⟨fun c => R (c, z2.2)⟩)⟩)⟩)⟩) := by exact oW_cSubM ..
@[simp] theorem W_cSl (a : O) (lo hi : M (Option Int)) : W (cSl a lo hi ρ) (Q := ⟨R⟩) = W (a ρ) (Q := ⟨fun z1 => W (lo z1.2) (Q := ⟨fun z2 => W (hi z2.2) (Q := ⟨fun z3 => W (deref z1.1 z3.2) (Q := ⟨fun va => W (psl va z2.1 z3.1) (Q := ⟨fun r => R (r, z3.2)⟩)⟩)⟩)⟩)⟩) := by exact oW_cSl ..
@[simp] theorem W_cIf (t : M Bool) (a b : M PV) : W (cIf t a b ρ) (Q := ⟨R⟩) = W (t ρ) (Q := ⟨fun z => Br (z.1 = true) (x := ⟨(W (a z.2) (Q := ⟨R⟩))⟩) (y := ⟨(W (b z.2) (Q := ⟨R⟩))⟩)⟩) := by exact oW_cIf ..
@[simp] theorem W_cAnd (a b : M PV) : W (cAnd a b ρ) (Q := ⟨R⟩) = W (a ρ) (Q := ⟨fun z => W (asB z.1) (Q := ⟨fun k => Br (k = true) (x := ⟨(W (b z.2) (Q := ⟨R⟩))⟩) (y := ⟨(R (.bl false, z.2))⟩)⟩)⟩) := by exact oW_cAnd ..
@[simp] theorem W_cOr (a b : M PV) : W (cOr a b ρ) (Q := ⟨R⟩) = W (a ρ) (Q := ⟨fun z => W (asB z.1) (Q := ⟨fun k => Br (k = true) (x := ⟨(R (.bl true, z.2))⟩) (y := ⟨(W (b z.2) (Q := ⟨R⟩))⟩)⟩)⟩) := by exact oW_cOr ..
@[simp] theorem W_cNot (a : M PV) : W (cNot a ρ) (Q := ⟨R⟩) = W (a ρ) (Q := ⟨fun z => W (asB z.1) (Q := ⟨fun k => R (.bl (!k), z.2)⟩)⟩) := by exact oW_cNot ..
@[simp] theorem W_cChain (p p' : PV → PV → Option PV) (a b c : O) : W (cChain p p' a b c ρ) (Q := ⟨R⟩) = W (a ρ) (Q := ⟨fun z1 => W (b z1.2) (Q := ⟨fun z2 => W (deref z1.1 z2.2) (Q := ⟨fun va => W (deref z2.1 z2.2) (Q := ⟨fun vb => W (p va vb) (Q := ⟨fun r => W (asB r) (Q := ⟨fun k =>
    Br (k = true) (x := ⟨(W (c z2.2) (Q := ⟨fun z3 => W (deref z2.1 z3.2) (Q := ⟨fun vb' => W (deref z3.1 z3.2) (Q := ⟨fun vc => W (p' vb' vc) (Q := ⟨fun r' => R (r', z3.2)⟩)⟩)⟩)⟩))⟩) (y := ⟨(R (.bl false, z2.2))⟩)⟩)⟩)⟩)⟩)⟩)⟩) := by exact oW_cChain ..
@[simp] theorem W_mVal (a : M PV) : W (mVal a ρ) (Q := ⟨RB⟩) = W (a ρ) (Q := ⟨fun z => W (asB z.1) (Q := ⟨fun k => RB (k, z.2)⟩)⟩) := by exact oW_mVal ..
@[simp] theorem W_mAnd (a b : M Bool) : W (mAnd a b ρ) (Q := ⟨RB⟩) = W (a ρ) (Q := ⟨fun z => Br (z.1 = true) (x := ⟨(W (b z.2) (Q := ⟨RB⟩))⟩) (y := ⟨(RB (false, z.2))⟩)⟩) := by exact oW_mAnd ..
@[simp] theorem W_mOr (a b : M Bool) : W (mOr a b ρ) (Q := ⟨RB⟩) = W (a ρ) (Q := ⟨fun z => Br (z.1 = true) (x := ⟨(RB (true, z.2))⟩) (y := ⟨(W (b z.2) (Q := ⟨RB⟩))⟩)⟩) := by exact oW_mOr ..
@[simp] theorem W_mNot (a : M Bool) : W (mNot a ρ) (Q := ⟨RB⟩) = W (a ρ) (Q := ⟨fun z => RB (!z.1, z.2)⟩) := by exact oW_mNot ..
@[simp] theorem W_mTru (a : O) : W (mTru a ρ) (Q := ⟨RB⟩) = W (a ρ) (Q := ⟨fun z => W (deref z.1 z.2) (Q := ⟨fun v => W (ptru v) (Q := ⟨fun k => RB (k, z.2)⟩)⟩)⟩) := by exact oW_mTru ..
@[simp] theorem W_mYes : W (mYes ρ) (Q := ⟨RB⟩) = RB (true, ρ) := by exact oW_mYes ..
@[simp] theorem W_mNo : W (mNo ρ) (Q := ⟨RI⟩) = RI (none, ρ) := by exact oW_mNo ..
@[simp] theorem W_mSome (a : M PV) : W (mSome a ρ) (Q := ⟨RI⟩) = W (a ρ) (Q := ⟨fun z => W (asI z.1) (Q := ⟨fun i => RI (some i, z.2)⟩)⟩) := by exact oW_mSome ..
@[simp] theorem W_oSl (i : Nat) : W (oSl i ρ) (Q := ⟨RO⟩) = W ((ρ[i]?).bind Slot.get) (Q := ⟨fun _ => RO (.sl i, ρ)⟩) := by exact oW_oSl ..
@[simp] theorem W_oTm (a : M PV) : W (oTm a ρ) (Q := ⟨RO⟩) = W (a ρ) (Q := ⟨fun z => RO (.tm z.1, z.2)⟩) := by exact oW_oTm ..
@[simp] theorem W_oNil : W (oNil ρ) (Q := ⟨RA⟩) = RA ([], ρ) := by exact oW_oNil ..
@[simp] theorem W_oCons (a : O) (b : M (List Opd)) : W (oCons a b ρ) (Q := ⟨RA⟩) = W (a ρ) (Q := ⟨fun z => W (b z.2) (Q := ⟨fun z2 => RA (z.1 :: z2.1, z2.2)⟩)⟩) := by exact oW_oCons ..
@[simp] theorem deref_tm (v : PV) : deref (.tm v) ρ = some v := rfl
@[simp] theorem deref_pk (v : PV) : deref (.pk v) ρ = some v := rfl
@[simp] theorem deref_sl (i : Nat) : deref (.sl i) ρ = (ρ[i]?).bind Slot.get := rfl
@[simp] theorem derefs_nil : derefs [] ρ = some [] := rfl
@[simp] theorem W_derefs (o : Opd) (os : List Opd) : W (derefs (o :: os) ρ) (Q := ⟨RPs⟩) = W (deref o ρ) (Q := ⟨fun v => W (derefs os ρ) (Q := ⟨fun vs => RPs (v :: vs)⟩)⟩) := by exact oW_derefs ..
@[simp] theorem tmVals_nil : tmVals [] = some [] := rfl
@[simp] theorem W_tmVals (v : PV) (os : List Opd) : W (tmVals (.tm v :: os)) (Q := ⟨RPs⟩) = W (tmVals os) (Q := ⟨fun vs => RPs (v :: vs)⟩) := by exact oW_tmVals ..
@[simp] theorem get_un : Slot.un.get = none := rfl
@[simp] theorem get_val (v : PV) : (Slot.val v).get = some v := rfl
@[simp] theorem get_ref (v : PV) : (Slot.ref v).get = some v := rfl
@[simp] theorem asB_bl (b : Bool) : asB (.bl b) = some b := rfl
@[simp] theorem asI_int (b : Int) : asI (.int b) = some b := rfl
def chgK (ρ : Rho) (i : Nat) (v : PV) (R : Rho → Prop) : Slot → Prop
  | .val _ => R (ρ.set i (.val v))
  | .ref _ => R (ρ.set i (.ref v))
  | .un => False
@[simp] theorem chgK_val (i : Nat) (v w : PV) : chgK ρ i v RT (.val w) = RT (ρ.set i (.val v)) := rfl
@[simp] theorem chgK_ref (i : Nat) (v w : PV) : chgK ρ i v RT (.ref w) = RT (ρ.set i (.ref v)) := rfl
@[simp] theorem W_chg (i : Nat) (v : PV) : W (chg i v ρ) (Q := ⟨RT⟩) = W (ρ[i]?) (Q := ⟨(chgK ρ i v RT)⟩) := by exact oW_chg ..
@[simp] theorem W_cMut (i : Nat) (T : String) (p : PV → List PV → Option (PV × PV)) (a : M (List Opd)) : W (cMut i T p a ρ) (Q := ⟨R⟩) = W ((ρ[i]?).bind Slot.get) (Q := ⟨fun ob0 => An (kindP ob0 = T) (x := ⟨(W (a ρ) (Q := ⟨fun z => W (tmVals z.1) (Q := ⟨fun vs => W ((z.2[i]?).bind Slot.get) (Q := ⟨fun ob => W (p ob vs) (Q := ⟨fun w => An (w.2.pure = true) (x := ⟨(W (chg i w.1 z.2) (Q := ⟨fun ρ2 => R (w.2, ρ2)⟩))⟩)⟩)⟩)⟩)⟩))⟩)⟩) := by exact oW_cMut ..
@[simp] theorem kindP_lst (xs : List PV) : kindP (.lst true xs) = "list" := rfl
@[simp] theorem kindP_dic (xs : List (Key × PV)) : kindP (.dic true xs) = "dict" := rfl
/-! ### calls -/
def givK (os : List Opd) (ρ : Rho) (i : Nat) (R : List Slot × Rho → Prop) : Slot → Prop
  | .un => False
  | .val v => Br (v.pure = true) (x := ⟨(W (giveL os ρ) (Q := ⟨fun r => R (.val v :: r.1, r.2)⟩))⟩) (y := ⟨(W (giveL os (ρ.set i .un)) (Q := ⟨fun r => R (.ref v :: r.1, r.2)⟩))⟩)
  | .ref v => Br (v.pure = true) (x := ⟨(W (giveL os ρ) (Q := ⟨fun r => R (.val v :: r.1, r.2)⟩))⟩) (y := ⟨(W (giveL os (ρ.set i .un)) (Q := ⟨fun r => R (.ref v :: r.1, r.2)⟩))⟩)
variable {RG : List Slot × Rho → Prop}
@[simp] theorem givK_val (os : List Opd) (i : Nat) (v : PV) : givK os ρ i RG (.val v) = Br (v.pure = true) (x := ⟨(W (giveL os ρ) (Q := ⟨fun r => RG (.val v :: r.1, r.2)⟩))⟩) (y := ⟨(W (giveL os (ρ.set i .un)) (Q := ⟨fun r => RG (.ref v :: r.1, r.2)⟩))⟩) := rfl
@[simp] theorem givK_ref (os : List Opd) (i : Nat) (v : PV) : givK os ρ i RG (.ref v) = Br (v.pure = true) (x := ⟨(W (giveL os ρ) (Q := ⟨fun r => RG (.val v :: r.1, r.2)⟩))⟩) (y := ⟨(W (giveL os (ρ.set i .un)) (Q := ⟨fun r => RG (.ref v :: r.1, r.2)⟩))⟩) := rfl
@[simp] theorem W_give_nil : W (giveL [] ρ) (Q := ⟨RG⟩) = RG ([], ρ) := by exact oW_give_nil ..
@[simp] theorem W_give_tm (v : PV) (os : List Opd) : W (giveL (.tm v :: os) ρ) (Q := ⟨RG⟩) = W (giveL os ρ) (Q := ⟨fun r => RG (.val v :: r.1, r.2)⟩) := by exact oW_give_tm ..
@[simp] theorem W_give_sl (i : Nat) (os : List Opd) : W (giveL (.sl i :: os) ρ) (Q := ⟨RG⟩) = W (ρ[i]?) (Q := ⟨(givK os ρ i RG)⟩) := by exact oW_give_sl ..
def takK (os : List Opd) (as ts : List Slot) (ρ0 ρ : Rho) (i : Nat) (v : PV) (R : Rho → Prop) : Slot → Prop
  | .un => False
  | .val _ => W (takeL os as ts ρ0 (ρ.set i (.val v))) (Q := ⟨R⟩)
  | .ref _ => W (takeL os as ts ρ0 (ρ.set i (.ref v))) (Q := ⟨R⟩)
@[simp] theorem takK_val (os : List Opd) (as ts : List Slot) (ρ0 : Rho) (i : Nat) (v w : PV) : takK os as ts ρ0 ρ i v RT (.val w) = W (takeL os as ts ρ0 (ρ.set i (.val v))) (Q := ⟨RT⟩) := rfl
@[simp] theorem takK_ref (os : List Opd) (as ts : List Slot) (ρ0 : Rho) (i : Nat) (v w : PV) : takK os as ts ρ0 ρ i v RT (.ref w) = W (takeL os as ts ρ0 (ρ.set i (.ref v))) (Q := ⟨RT⟩) := rfl
@[simp] theorem W_take_nil (as ts : List Slot) (ρ0 : Rho) : W (takeL [] as ts ρ0 ρ) (Q := ⟨RT⟩) = RT ρ := by exact oW_take_nil ..
@[simp] theorem W_take_ref (os : List Opd) (as ts : List Slot) (ρ0 : Rho) (i : Nat) (v w : PV) : W (takeL (.sl i :: os) (.ref w :: as) (.ref v :: ts) ρ0 ρ) (Q := ⟨RT⟩) = W (ρ0[i]?) (Q := ⟨(takK os as ts ρ0 ρ i v RT)⟩) := by exact oW_take_ref ..
@[simp] theorem W_take_val (o : Opd) (os : List Opd) (as ts : List Slot) (ρ0 : Rho) (w : PV) (t : Slot) : W (takeL (o :: os) (.val w :: as) (t :: ts) ρ0 ρ) (Q := ⟨RT⟩) = W (takeL os as ts ρ0 ρ) (Q := ⟨RT⟩) := by exact oW_take_val ..
@[simp] theorem W_cFn (F : Fn) (dvs : List PV) (a : M (List Opd)) : W (cFn F dvs a ρ) (Q := ⟨R⟩) = W (a ρ) (Q := ⟨fun z => W (giveL z.1 z.2) (Q := ⟨fun g => W (F (g.1 ++ dvs.map .val)) (Q := ⟨fun r => W (takeL z.1 g.1 r.2 z.2 g.2) (Q := ⟨fun ρ2 => R (r.1, ρ2)⟩)⟩)⟩)⟩) := by exact oW_cFn ..
/-! ### what is walked -/
@[simp] theorem W_iVal (a : M PV) : W (iVal a ρ) (Q := ⟨RL⟩) = W (a ρ) (Q := ⟨fun z => W (itemsOf z.1) (Q := ⟨fun xs => RL (xs, z.2)⟩)⟩) := by exact oW_iVal ..
@[simp] theorem W_iCall (p : List PV → Option (List PV)) (a : M (List Opd)) : W (iCall p a ρ) (Q := ⟨RL⟩) = W (a ρ) (Q := ⟨fun z => W (derefs z.1 z.2) (Q := ⟨fun vs => W (p vs) (Q := ⟨fun r => RL (r, z.2)⟩)⟩)⟩) := by exact oW_iCall ..
@[simp] theorem itemsOf_tup (xs : List PV) : itemsOf (.tup xs) = some xs := rfl
@[simp] theorem itemsOf_lst (o : Bool) (xs : List PV) : itemsOf (.lst o xs) = some xs := rfl
@[simp] theorem itemsOf_zls (xs : List PV) : itemsOf (.zls xs) = some xs := rfl
@[simp] theorem W_sFor (i : M (List PV)) (t : Tg) (b : S) : W (sFor i t b ρ) (Q := ⟨Q⟩) = W (i ρ) (Q := ⟨fun z => W (forL t b z.1 z.2) (Q := ⟨Q⟩)⟩) := by exact oW_sFor ..
@[simp] theorem W_cComp (vs : List Nat) (i : M (List PV)) (t : Tg) (c : M Bool) (e : M PV) : W (cComp vs i t c e ρ) (Q := ⟨R⟩) = W (i ρ) (Q := ⟨fun z => An (pureW vs 0 z.2 = true) (x := ⟨(An (z.1.length ≤ 16777216) (x := ⟨(W (compL vs t c e z.1 (mskR vs 0 z.2)) (Q := ⟨fun r => R (.lst true r.1, bckR vs 0 r.2 z.2)⟩))⟩))⟩)⟩) := by exact oW_cComp ..
end
/-- lo, lo+1, .. hi-1 -/
def irng (lo hi : Int) : List Int := (List.range (hi - lo).toNat).map fun k : Nat => lo + (k : Int)
theorem irng_mem {lo hi x : Int} : x ∈ irng lo hi ↔ lo ≤ x ∧ x < hi := by
  simp only [irng, List.mem_map, List.mem_range]
  exact ⟨fun ⟨k, h, e⟩ => by omega, fun h => ⟨(x - lo).toNat, by omega, by omega⟩⟩
@[simp] theorem irng_length (lo hi : Int) : (irng lo hi).length = (hi - lo).toNat := by simp [irng]
theorem irng_nil {lo hi : Int} (h : hi ≤ lo) : irng lo hi = [] := by
  have : (hi - lo).toNat = 0 := by omega
  simp [irng, this]
theorem irng_cons {lo hi : Int} (h : lo < hi) : irng lo hi = lo :: irng (lo + 1) hi := by
  have e : (hi - lo).toNat = (hi - (lo + 1)).toNat + 1 := by omega
  simp only [irng, e, List.range_succ_eq_map, List.map_cons, List.map_map]
  congr 1
  · omega
  · refine List.map_congr_left fun k _ => ?_
    simp only [Function.comp, Nat.succ_eq_add_one]
    omega
theorem irng_snoc {lo hi : Int} (h : lo ≤ hi) : irng lo (hi + 1) = irng lo hi ++ [hi] := by
  have e : (hi + 1 - lo).toNat = (hi - lo).toNat + 1 := by omega
  simp only [irng, e, List.range_succ, List.map_append, List.map_cons, List.map_nil]
  congr 2
  omega
theorem irng_app {lo mid hi : Int} (h : lo ≤ mid) (k : mid ≤ hi) : irng lo hi = irng lo mid ++ irng mid hi := by
  obtain ⟨n, hn⟩ : ∃ n : Nat, (hi - mid).toNat = n := ⟨_, rfl⟩
  induction n generalizing hi with
  | zero =>
    have : hi = mid := by omega
    subst this
    rw [irng_nil (Int.le_refl _), List.append_nil]
  | succ n ih =>
    have e : hi = (hi - 1) + 1 := by omega
    rw [e, irng_snoc (by omega), irng_snoc (by omega), ih (hi := hi - 1) (by omega) (by omega), List.append_assoc]
theorem rangeL_irng : ∀ (n : Nat) (lo : Int), rangeL lo n = (irng lo (lo + n)).map PV.int
  | 0, lo => by rw [irng_nil (by omega)]; rfl
  | n + 1, lo => by
    rw [rangeL, rangeL_irng n, irng_cons (lo := lo) (hi := lo + ((n + 1 : Nat) : Int)) (by omega), List.map_cons]
    have : lo + 1 + (n : Int) = lo + ((n + 1 : Nat) : Int) := by omega
    rw [this]
theorem irng_toNat {lo hi : Int} : irng lo (lo + (hi - lo).toNat) = irng lo hi := by
  by_cases h : lo ≤ hi
  · have : lo + ((hi - lo).toNat : Int) = hi := by omega
    rw [this]
  · rw [irng_nil (by omega), irng_nil (by omega)]
@[simp] theorem rng1_int (j : Int) : rng1 [.int j] = if smallI j = true then some ((irng 0 j).map PV.int) else none := by
  show (if smallI j = true then some (rangeL 0 j.toNat) else none) = _
  rw [rangeL_irng]
  have := irng_toNat (lo := 0) (hi := j)
  rw [Int.sub_zero] at this
  rw [this]
@[simp] theorem rng2_int (i j : Int) : rng2 [.int i, .int j] = if (smallI i && smallI j) = true then some ((irng i j).map PV.int) else none := by
  show (if (smallI i && smallI j) = true then some (rangeL i (j - i).toNat) else none) = _
  rw [rangeL_irng, irng_toNat]
theorem smallI_of {j : Int} (h : -4611686018427387904 ≤ j) (k : j < 4611686018427387904) : smallI j = true := by simp [smallI, h, k]
@[simp] theorem W_if_ {α : Type} (c : Prop) [Decidable c] (a b : Option α) (Q : α → Prop) : W (if c then a else b) (Q := ⟨Q⟩) = Br c (x := ⟨W a (Q := ⟨Q⟩)⟩) (y := ⟨W b (Q := ⟨Q⟩)⟩) := W_if c a b Q
@[simp] theorem W_guard_ {α : Type} (c : Prop) [Decidable c] (a : Option α) (Q : α → Prop) : W (guard c a) (Q := ⟨Q⟩) = An c (x := ⟨W a (Q := ⟨Q⟩)⟩) := W_guard c a Q
@[simp] theorem W_bind_ {α β : Type} (m : Option α) (f : α → Option β) (Q : β → Prop) : W (m.bind f) (Q := ⟨Q⟩) = W m (Q := ⟨fun a => W (f a) (Q := ⟨Q⟩)⟩) := W_bind m f Q
/-! ### rules of loops -/
section
variable {α β : Type} {ρ : Rho} {Q : Out → Prop} {vs : List Nat} {t : Tg} {c : M Bool} {e : M PV} {enc : α → PV} {b : S}
/-! over a list that is written out -/
theorem W_forNil {R : Out → Prop} : W (forL t b [] ρ) (Q := ⟨R⟩) = R (.nx ρ) := W_some ..
theorem W_forCons {R : Out → Prop} (x : PV) (xs : List PV) : W (forL t b (x :: xs) ρ) (Q := ⟨R⟩) = An (x.pure = true) (x := ⟨W (t x ρ) (Q := ⟨fun ρ1 => W (b ρ1) (Q := ⟨lopK (fun ρ2 => W (forL t b xs ρ2) (Q := ⟨R⟩)) R⟩)⟩)⟩) := by exact oW_forCons ..
theorem W_compNil {R : List PV × Rho → Prop} : W (compL vs t c e [] ρ) (Q := ⟨R⟩) = R ([], ρ) := W_some ..
theorem W_compCons {R : List PV × Rho → Prop} (x : PV) (xs : List PV) : W (compL vs t c e (x :: xs) ρ) (Q := ⟨R⟩) = An (x.pure = true) (x := ⟨W (t x ρ) (Q := ⟨fun ρ1 => W (c ρ1) (Q := ⟨fun z => Br (z.1 = true) (x := ⟨W (e z.2) (Q := ⟨fun y => W (compL vs t c e xs (mskR vs 0 y.2)) (Q := ⟨fun r => R (y.1 :: r.1, r.2)⟩)⟩)⟩) (y := ⟨W (compL vs t c e xs (mskR vs 0 z.2)) (Q := ⟨R⟩)⟩)⟩)⟩)⟩) := by exact oW_compCons ..
/-- a comprehension that leaves the names as they are -/
theorem W_compL (f : α → Option PV) {xs : List α} {R : List PV × Rho → Prop}
    (h : ∀ x ∈ xs, (enc x).pure = true ∧ W (t (enc x) ρ) (Q := ⟨fun ρ1 => W (c ρ1) (Q := ⟨fun z => Br (z.1 = true) (x := ⟨(W (e z.2) (Q := ⟨fun y => f x = some y.1 ∧ mskR vs 0 y.2 = ρ⟩))⟩) (y := ⟨(f x = none ∧ mskR vs 0 z.2 = ρ)⟩)⟩)⟩))
    (k : R (xs.filterMap f, ρ)) : W (compL vs t c e (xs.map enc) ρ) (Q := ⟨R⟩) := by
  refine W_ofEq ?_ k
  clear k
  induction xs with
  | nil => rfl
  | cons x xs ih =>
    obtain ⟨hp, ρ1, h1, z, h2, h3⟩ := h x (List.mem_cons_self ..)
    have ih := ih fun y hy => h y (List.mem_cons_of_mem _ hy)
    rw [List.map_cons, compL, if_pos hp, h1]
    simp only [Option.bind_some]
    rw [h2]
    simp only [Option.bind_some]
    by_cases hb : z.1 = true
    · obtain ⟨y, h4, h5, h6⟩ := h3.1 hb
      rw [if_pos hb, h4]
      simp only [Option.bind_some]
      rw [h6, ih, List.filterMap_cons, h5]
      rfl
    · obtain ⟨h5, h6⟩ := h3.2 hb
      rw [if_neg hb, h6, ih, List.filterMap_cons, h5]
/-- .. without a condition -/
theorem W_compM (f : α → PV) {xs : List α} {R : List PV × Rho → Prop}
    (h : ∀ x ∈ xs, (enc x).pure = true ∧ W (t (enc x) ρ) (Q := ⟨fun ρ1 => W (c ρ1) (Q := ⟨fun z => An (z.1 = true) (x := ⟨(W (e z.2) (Q := ⟨fun y => y.1 = f x ∧ mskR vs 0 y.2 = ρ⟩))⟩)⟩)⟩))
    (k : R (xs.map f, ρ)) : W (compL vs t c e (xs.map enc) ρ) (Q := ⟨R⟩) := by
  refine W_compL (fun x => some (f x)) (fun x hx => ?_) (by rw [List.filterMap_eq_map' (f := f)]; exact k)
  obtain ⟨hp, ρ1, h1, z, h2, h3, y, h4, h5, h6⟩ := h x hx
  exact ⟨hp, ρ1, h1, z, h2, fun _ => ⟨y, h4, by rw [h5], h6⟩, fun n => absurd h3 n⟩
/-- .. with one -/
theorem W_compB (p : α → Bool) (f : α → PV) {xs : List α} {R : List PV × Rho → Prop}
    (h : ∀ x ∈ xs, (enc x).pure = true ∧ W (t (enc x) ρ) (Q := ⟨fun ρ1 => W (c ρ1) (Q := ⟨fun z => Br (z.1 = true) (x := ⟨(W (e z.2) (Q := ⟨fun y => p x = true ∧ y.1 = f x ∧ mskR vs 0 y.2 = ρ⟩))⟩) (y := ⟨(p x = false ∧ mskR vs 0 z.2 = ρ)⟩)⟩)⟩))
    (k : R ((xs.filter p).map f, ρ)) : W (compL vs t c e (xs.map enc) ρ) (Q := ⟨R⟩) := by
  refine W_compL (fun x => if p x = true then some (f x) else none) (fun x hx => ?_) ?_
  · obtain ⟨hp, ρ1, h1, z, h2, h3⟩ := h x hx
    refine ⟨hp, ρ1, h1, z, h2, fun hz => ?_, fun hz => ?_⟩
    · obtain ⟨y, h4, h5, h6, h7⟩ := h3.1 hz
      exact ⟨y, h4, by rw [if_pos h5, h6], h7⟩
    · obtain ⟨h4, h5⟩ := h3.2 hz
      exact ⟨by rw [if_neg (by simp [h4])], h5⟩
  · have e : xs.filterMap (fun x => if p x = true then some (f x) else none) = (xs.filter p).map f := by
      clear h k
      induction xs with
      | nil => rfl
      | cons x xs ih =>
        rw [List.filterMap_cons, List.filter_cons]
        by_cases hp : p x = true
        · rw [if_pos hp, if_pos hp, List.map_cons, ih]
        · rw [if_neg hp, if_neg hp, ih]
    rw [e]
    exact k
/-- .. under an invariant: done, what was made of it, the names -/
theorem W_compI (J : List α → List PV → Rho → Prop) {xs : List α} {R : List PV × Rho → Prop} (h0 : J [] [] ρ)
    (h : ∀ p x q ys ρ, xs = p ++ x :: q → J p ys ρ → (enc x).pure = true ∧ W (t (enc x) ρ) (Q := ⟨fun ρ1 => W (c ρ1) (Q := ⟨fun z => Br (z.1 = true) (x := ⟨(W (e z.2) (Q := ⟨fun y => J (p ++ [x]) (ys ++ [y.1]) (mskR vs 0 y.2)⟩))⟩) (y := ⟨(J (p ++ [x]) ys (mskR vs 0 z.2))⟩)⟩)⟩))
    (k : ∀ ys ρ, J xs ys ρ → R (ys, ρ)) : W (compL vs t c e (xs.map enc) ρ) (Q := ⟨R⟩) := by
  have key : ∀ (q p : List α) (ys : List PV) (ρ : Rho), xs = p ++ q → J p ys ρ → ∃ zs ρ', compL vs t c e (q.map enc) ρ = some (zs, ρ') ∧ J xs (ys ++ zs) ρ' := by
    intro q
    induction q with
    | nil => intro p ys ρ e j; exact ⟨[], ρ, rfl, by rw [List.append_nil]; rw [List.append_nil] at e; rw [e]; exact j⟩
    | cons x q ih =>
      intro p ys ρ ex j
      obtain ⟨hp, ρ1, h1, z, h2, h3⟩ := h p x q ys ρ ex j
      have ex' : xs = (p ++ [x]) ++ q := by rw [ex]; simp
      by_cases hb : z.1 = true
      · obtain ⟨y, h4, h5⟩ := h3.1 hb
        obtain ⟨zs, ρ', i1, i2⟩ := ih _ _ _ ex' h5
        refine ⟨y.1 :: zs, ρ', ?_, by simpa using i2⟩
        rw [List.map_cons, compL, if_pos hp, h1]
        simp only [Option.bind_some]
        rw [h2]
        simp only [Option.bind_some]
        rw [if_pos hb, h4]
        simp only [Option.bind_some]
        rw [i1]
        rfl
      · obtain ⟨zs, ρ', i1, i2⟩ := ih _ _ _ ex' (h3.2 hb)
        refine ⟨zs, ρ', ?_, i2⟩
        rw [List.map_cons, compL, if_pos hp, h1]
        simp only [Option.bind_some]
        rw [h2]
        simp only [Option.bind_some]
        rw [if_neg hb, i1]
  obtain ⟨zs, ρ', e1, j⟩ := key xs [] [] ρ rfl h0
  exact W_ofEq e1 (k _ _ (by simpa using j))
/-- a for, by what is done and what is left -/
theorem W_forL (J : List α → List α → Rho → Prop) {xs : List α} (h0 : J [] xs ρ)
    (h : ∀ p x q ρ, xs = p ++ x :: q → J p (x :: q) ρ → (enc x).pure = true ∧ W (t (enc x) ρ) (Q := ⟨fun ρ1 => W (b ρ1) (Q := ⟨(lopK (J (p ++ [x]) q) Q)⟩)⟩))
    (k : ∀ ρ, J xs [] ρ → Q (.nx ρ)) : W (forL t b (xs.map enc) ρ) (Q := ⟨Q⟩) := by
  have key : ∀ (q p : List α) (ρ : Rho), xs = p ++ q → J p q ρ → W (forL t b (q.map enc) ρ) (Q := ⟨Q⟩) := by
    intro q
    induction q with
    | nil => intro p ρ e j; rw [List.append_nil] at e; subst e; exact W_ofEq rfl (k ρ j)
    | cons x q ih =>
      intro p ρ ex j
      obtain ⟨hp, ρ1, h1, o, h2, h3⟩ := h p x q ρ ex j
      have ex' : xs = (p ++ [x]) ++ q := by rw [ex]; simp
      rw [List.map_cons, forL, if_pos hp, h1]
      simp only [Option.bind_some]
      rw [h2]
      simp only [Option.bind_some]
      cases o with
      | nx ρ2 => exact ih _ _ ex' h3
      | ct ρ2 => exact ih _ _ ex' h3
      | bk ρ2 => exact W_ofEq rfl h3
      | rt v ρ2 => exact W_ofEq rfl h3
  exact key xs [] ρ rfl h0
/-- .. that folds a state -/
theorem W_forF {σ : Type} (r : σ → Slot → Rho) (f : σ → α → σ) {s0 : σ} {y0 : Slot} {xs : List α} (hy : y0.loc = true) (h0 : ρ = r s0 y0)
    (h : ∀ p x q y, xs = p ++ x :: q → y.loc = true → (enc x).pure = true ∧ W (t (enc x) (r (p.foldl f s0) y)) (Q := ⟨fun ρ1 => W (b ρ1) (Q := ⟨(lopK (fun ρ2 => ∃ y', y'.loc = true ∧ ρ2 = r (f (p.foldl f s0) x) y') Q)⟩)⟩))
    (k : ∀ y, y.loc = true → Q (.nx (r (xs.foldl f s0) y))) : W (forL t b (xs.map enc) ρ) (Q := ⟨Q⟩) := by
  refine W_forL (fun p q ρ => ∃ y, y.loc = true ∧ ρ = r (p.foldl f s0) y) ⟨y0, hy, h0⟩ (fun p x q ρ e ⟨y, hy, hj⟩ => ?_) fun ρ ⟨y, hy, e⟩ => e ▸ k y hy
  subst hj
  have e2 : (p ++ [x]).foldl f s0 = f (p.foldl f s0) x := by simp
  rw [e2]
  exact h p x q y e hy
/-- a while, by a state -/
theorem W_while {σ : Type} {t : M Bool} (r : σ → Rho) (I : σ → Prop) (μ : σ → Nat) (s0 : σ) (h0 : ρ = r s0) (i0 : I s0)
    (h : ∀ s, I s → W (t (r s)) (Q := ⟨fun z => Br (z.1 = true) (x := ⟨(W (b z.2) (Q := ⟨(lopK (fun ρ' => ∃ s', ρ' = r s' ∧ I s' ∧ μ s' < μ s) Q)⟩))⟩) (y := ⟨(Q (.nx z.2))⟩)⟩)) : W (sWhile t b ρ) (Q := ⟨Q⟩) := by
  have key : ∀ (n : Nat) (s : σ), μ s < n → I s → W (sWhile t b (r s)) (Q := ⟨Q⟩) := by
    intro n
    induction n with
    | zero => intro s h; omega
    | succ n ih =>
      intro s hn i
      obtain ⟨z, h1, h2⟩ := h s i
      obtain ⟨zb, ρ1⟩ := z
      cases zb with
      | false => exact W_ofEq (while_end h1) (h2.2 (by simp))
      | true =>
        obtain ⟨o, h3, h4⟩ := h2.1 rfl
        cases o with
        | nx ρ2 =>
          obtain ⟨s', rfl, i', m⟩ := h4
          obtain ⟨o', g1, g2⟩ := ih s' (by omega) i'
          exact W_ofEq (while_turn h1 (by rw [h3]; exact g1)) g2
        | ct ρ2 =>
          obtain ⟨s', rfl, i', m⟩ := h4
          obtain ⟨o', g1, g2⟩ := ih s' (by omega) i'
          exact W_ofEq (while_turn h1 (by rw [h3]; exact g1)) g2
        | bk ρ2 => exact W_ofEq (while_turn h1 (by rw [h3]; rfl)) h4
        | rt v ρ2 => exact W_ofEq (while_turn h1 (by rw [h3]; rfl)) h4
  subst h0
  exact key (μ s0 + 1) s0 (by omega) i0
end
end GX

/-! GX: values: simp lemmas. -/
namespace GX
open PySem PySem.Spec PyProof.Rows L2

theorem pures_map {α : Type} {f : α → PV} (h : ∀ x, (f x).pure = true) : ∀ xs : List α, PV.pures (xs.map f) = true
  | [] => rfl
  | x :: xs => by rw [List.map_cons, PV.pures, h, pures_map h xs] <;> rfl
@[simp] theorem pures_map_iff {α : Type} {f : α → PV} : ∀ {xs : List α}, PV.pures (xs.map f) = true ↔ ∀ x ∈ xs, (f x).pure = true
  | [] => by simp [PV.pures]
  | x :: xs => by rw [List.map_cons, PV.pures, Bool.and_eq_true, pures_map_iff]; simp
@[simp] theorem PVpure_tup (xs : List PV) : (PV.tup xs).pure = PV.pures xs := by rw [PV.pure]
@[simp] theorem PVpure_int (i : Int) : (PV.int i).pure = true := rfl
@[simp] theorem PVpure_bl (i : Bool) : (PV.bl i).pure = true := rfl
@[simp] theorem PVpure_str (i : Str) : (PV.str i).pure = true := rfl
@[simp] theorem PVpure_ty (i : String) : (PV.ty i).pure = true := rfl
@[simp] theorem PVpure_non : PV.non.pure = true := rfl
@[simp] theorem PVpure_zls (xs : List PV) : (PV.zls xs).pure = true := by rw [PV.pure] <;> simp
@[simp] theorem PVpure_lst (o : Bool) (xs : List PV) : (PV.lst o xs).pure = !o := by rw [PV.pure]
@[simp] theorem PVpures_nil : PV.pures [] = true := rfl
@[simp] theorem PVpures_cons (x : PV) (xs : List PV) : PV.pures (x :: xs) = (x.pure && PV.pures xs) := by rw [PV.pures]
@[simp] theorem PVpures_append : ∀ (xs ys : List PV), PV.pures (xs ++ ys) = (PV.pures xs && PV.pures ys)
  | [], ys => by simp
  | x :: xs, ys => by simp [PVpures_append xs ys, Bool.and_assoc]
@[simp] theorem frzDs_map {α : Type} {f : α → PV} (xs : List α) : PV.frzDs (xs.map f) = xs.map fun x => (f x).frzD := by rw [frzDs_eq, List.map_map]; rfl
@[simp] theorem frzDs_nil : PV.frzDs [] = [] := rfl
@[simp] theorem frzDs_cons (x : PV) (xs : List PV) : PV.frzDs (x :: xs) = x.frzD :: PV.frzDs xs := by rw [PV.frzDs]
@[simp] theorem frzD_int (i : Int) : (PV.int i).frzD = .int i := rfl
@[simp] theorem frzD_bl (i : Bool) : (PV.bl i).frzD = .bl i := rfl
@[simp] theorem frzD_str (i : Str) : (PV.str i).frzD = .str i := rfl
@[simp] theorem frzD_non : PV.non.frzD = .non := rfl
@[simp] theorem frzD_tup (xs : List PV) : (PV.tup xs).frzD = .tup (PV.frzDs xs) := by rw [PV.frzD]
@[simp] theorem frzD_lst (xs : List PV) : (PV.lst true xs).frzD = .lst false (PV.frzDs xs) := by rw [PV.frzD]
@[simp] theorem frzD_lstF (xs : List PV) : (PV.lst false xs).frzD = .lst false xs := by rw [PV.frzD] <;> simp
@[simp] theorem frz_lst (xs : List PV) : (PV.lst true xs).frz = .lst false (PV.frzDs xs) := by unfold PV.frz; simp
/-- a tree without lists that are owned -/
theorem frzD_pure : ∀ {x : PV}, x.pure = true → x.frz = x := fun {x} h => by unfold PV.frz; rw [if_pos h]
/-! numbers -/
@[simp] theorem padd_int (i j : Int) : padd (.int i) (.int j) = some (.int (i + j)) := rfl
@[simp] theorem psub_int (i j : Int) : psub (.int i) (.int j) = some (.int (i - j)) := rfl
@[simp] theorem piadd_int (i j : Int) : piadd (.int i) (.int j) = some (.int (i + j)) := rfl
@[simp] theorem pisub_int (i j : Int) : pisub (.int i) (.int j) = some (.int (i - j)) := rfl
@[simp] theorem pmul_int (i j : Int) : pmul (.int i) (.int j) = guard (MulOk i j) (some (.int (i * j))) := rfl
@[simp] theorem pfdiv_int (i j : Int) : pfdiv (.int i) (.int j) = guard (DivOk j) (some (.int (i / j))) := rfl
@[simp] theorem pmod_int (i j : Int) : pmod (.int i) (.int j) = guard (0 < j) (some (.int (i % j))) := rfl
@[simp] theorem pneg_int (i : Int) : pneg (.int i) = some (.int (-i)) := rfl
theorem mulOk_l {i j : Int} (h : i.natAbs < 18446744073709551616) : MulOk i j := .inl h
theorem mulOk_r {i j : Int} (h : j.natAbs < 18446744073709551616) : MulOk i j := .inr (.inl h)
theorem divOk {j : Int} (h : 0 < j) (k : j < 18446744073709551616) : DivOk j := ⟨h, .inl (by omega)⟩
@[simp] theorem plt_int (i j : Int) : plt (.int i) (.int j) = some (.bl (decide (i < j))) := rfl
@[simp] theorem ple_int (i j : Int) : ple (.int i) (.int j) = some (.bl (decide (i ≤ j))) := rfl
@[simp] theorem pgt_int (i j : Int) : pgt (.int i) (.int j) = some (.bl (decide (j < i))) := rfl
@[simp] theorem pge_int (i j : Int) : pge (.int i) (.int j) = some (.bl (decide (j ≤ i))) := rfl
@[simp] theorem peq_int (i j : Int) : peq (.int i) (.int j) = some (.bl (decide (i = j))) := rfl
@[simp] theorem pne_int (i j : Int) : pne (.int i) (.int j) = some (.bl (!decide (i = j))) := rfl
@[simp] theorem peq_str (i j : Str) : peq (.str i) (.str j) = some (.bl (decide (i = j))) := rfl
@[simp] theorem pne_str (i j : Str) : pne (.str i) (.str j) = some (.bl (!decide (i = j))) := rfl
@[simp] theorem peq_bl (i j : Bool) : peq (.bl i) (.bl j) = some (.bl (decide (i = j))) := rfl
@[simp] theorem pne_bl (i j : Bool) : pne (.bl i) (.bl j) = some (.bl (!decide (i = j))) := rfl
@[simp] theorem pisN_int (i : Int) : pisN (.int i) .non = some (.bl false) := rfl
@[simp] theorem pisN_tup (i : List PV) : pisN (.tup i) .non = some (.bl false) := rfl
@[simp] theorem pisN_lst (o : Bool) (i : List PV) : pisN (.lst o i) .non = some (.bl false) := rfl
@[simp] theorem pisN_str (i : Str) : pisN (.str i) .non = some (.bl false) := rfl
@[simp] theorem pisN_non : pisN .non .non = some (.bl true) := rfl
@[simp] theorem pnotN_int (i : Int) : pnotN (.int i) .non = some (.bl true) := rfl
@[simp] theorem pnotN_tup (i : List PV) : pnotN (.tup i) .non = some (.bl true) := rfl
@[simp] theorem pnotN_lst (o : Bool) (i : List PV) : pnotN (.lst o i) .non = some (.bl true) := rfl
@[simp] theorem pnotN_str (i : Str) : pnotN (.str i) .non = some (.bl true) := rfl
@[simp] theorem pnotN_non : pnotN .non .non = some (.bl false) := rfl
@[simp] theorem ptru_non : ptru .non = some false := rfl
@[simp] theorem ptru_bl (b : Bool) : ptru (.bl b) = some b := rfl
@[simp] theorem ptru_int (i : Int) : ptru (.int i) = some (i != 0) := rfl
@[simp] theorem ptru_tup (xs : List PV) : ptru (.tup xs) = some (!xs.isEmpty) := rfl
@[simp] theorem ptru_lst (o : Bool) (xs : List PV) : ptru (.lst o xs) = some (!xs.isEmpty) := rfl
/-! built-ins -/
@[simp] theorem plen_tup (xs : List PV) : plen [.tup xs] = some (.int xs.length) := rfl
@[simp] theorem plen_lst (o : Bool) (xs : List PV) : plen [.lst o xs] = some (.int xs.length) := rfl
@[simp] theorem plen_zls (xs : List PV) : plen [.zls xs] = some (.int xs.length) := rfl
@[simp] theorem pint_int (i : Int) : pint [.int i] = some (.int i) := rfl
@[simp] theorem pint_bl (i : Bool) : pint [.bl i] = some (.int (if i then 1 else 0)) := rfl
theorem pabs_int_ (i : Int) : pabs [.int i] = some (.int (if i < 0 then -i else i)) := rfl
@[simp] theorem pabs_int (i : Int) : pabs [.int i] = some (.int i.natAbs) := by
  rw [pabs_int_]
  congr 2
  split <;> omega
@[simp] theorem pmax_int (i j : Int) : pmax [.int i, .int j] = some (.int (max i j)) := by
  show some (PV.int (if j > i then j else i)) = _
  congr 2
  split <;> omega
@[simp] theorem pmin_int (i j : Int) : pmin [.int i, .int j] = some (.int (min i j)) := by
  show some (PV.int (if j < i then j else i)) = _
  congr 2
  split <;> omega
@[simp] theorem intsOf_int : ∀ xs : List Int, intsOf (xs.map .int) = some xs
  | [] => rfl
  | x :: xs => by rw [List.map_cons, intsOf, intsOf_int xs] <;> rfl
theorem intsOf_map {α : Type} (f : α → Int) (xs : List α) : intsOf (xs.map fun x => PV.int (f x)) = some (xs.map f) := by
  have := intsOf_int (xs.map f)
  rw [List.map_map] at this
  exact this
theorem blsOf_map {α : Type} {f : α → Bool} : ∀ xs : List α, blsOf (xs.map fun x => .bl (f x)) = some (xs.map f)
  | [] => rfl
  | x :: xs => by rw [List.map_cons, blsOf, blsOf_map xs] <;> rfl
@[simp] theorem psum_lst (o : Bool) (xs : List Int) : psum [.lst o (xs.map .int)] = some (.int xs.sum) := by
  show (intsOf (xs.map .int)).bind _ = _
  rw [intsOf_int] <;> rfl
@[simp] theorem psum_tup (xs : List Int) : psum [.tup (xs.map .int)] = some (.int xs.sum) := by
  show (intsOf (xs.map .int)).bind _ = _
  rw [intsOf_int] <;> rfl
@[simp] theorem psum_map {α : Type} (o : Bool) (f : α → Int) (xs : List α) : psum [.lst o (xs.map fun x => PV.int (f x))] = some (.int (xs.map f).sum) := by
  show (intsOf _).bind _ = _
  rw [intsOf_map] <;> rfl
@[simp] theorem pall_map {α : Type} (o : Bool) (f : α → Bool) (xs : List α) : pall [.lst o (xs.map fun x => PV.bl (f x))] = some (.bl (xs.all f)) := by
  show (blsOf _).bind _ = _
  rw [blsOf_map]
  simp
@[simp] theorem pany_map {α : Type} (o : Bool) (f : α → Bool) (xs : List α) : pany [.lst o (xs.map fun x => PV.bl (f x))] = some (.bl (xs.any f)) := by
  show (blsOf _).bind _ = _
  rw [blsOf_map]
  simp
@[simp] theorem pall_nil (o : Bool) : pall [.lst o []] = some (.bl true) := rfl
theorem pall_cons (o : Bool) (b : Bool) (xs : List PV) : pall [.lst o (.bl b :: xs)] = (pall [.lst o xs]).bind fun r => (asB r).bind fun c => some (.bl (b && c)) := by
  show (blsOf (.bl b :: xs)).bind _ = ((blsOf xs).bind _).bind _
  rw [blsOf]
  cases blsOf xs <;> simp
theorem pisi_val (v : PV) (T : String) : pisi [v, .ty T] = (isi v T).map .bl := rfl
@[simp] theorem pisi_int (i : Int) : pisi [.int i, .ty "int"] = some (.bl true) := rfl
@[simp] theorem pisi_intb (i : Int) : pisi [.int i, .ty "bool"] = some (.bl false) := rfl
@[simp] theorem pisi_ints (i : Int) : pisi [.int i, .ty "str"] = some (.bl false) := rfl
@[simp] theorem pisi_intt (i : Int) : pisi [.int i, .ty "tuple"] = some (.bl false) := rfl
@[simp] theorem pisi_bli (i : Bool) : pisi [.bl i, .ty "int"] = some (.bl true) := rfl
@[simp] theorem pisi_blb (i : Bool) : pisi [.bl i, .ty "bool"] = some (.bl true) := rfl
@[simp] theorem pisi_bls (i : Bool) : pisi [.bl i, .ty "str"] = some (.bl false) := rfl
@[simp] theorem pisi_blt (i : Bool) : pisi [.bl i, .ty "tuple"] = some (.bl false) := rfl
@[simp] theorem pisi_str (i : Str) : pisi [.str i, .ty "str"] = some (.bl true) := rfl
@[simp] theorem pisi_stri (i : Str) : pisi [.str i, .ty "int"] = some (.bl false) := rfl
@[simp] theorem pisi_strb (i : Str) : pisi [.str i, .ty "bool"] = some (.bl false) := rfl
@[simp] theorem pisi_strt (i : Str) : pisi [.str i, .ty "tuple"] = some (.bl false) := rfl
@[simp] theorem pisi_tup (i : List PV) : pisi [.tup i, .ty "tuple"] = some (.bl true) := rfl
@[simp] theorem pisi_tupi (i : List PV) : pisi [.tup i, .ty "int"] = some (.bl false) := rfl
@[simp] theorem pisi_tups (i : List PV) : pisi [.tup i, .ty "str"] = some (.bl false) := rfl
@[simp] theorem pisi_tupb (i : List PV) : pisi [.tup i, .ty "bool"] = some (.bl false) := rfl
@[simp] theorem plist_tup (xs : List PV) : plist [.tup xs] = guard (PV.pures xs = true) (some (.lst true xs)) := rfl
@[simp] theorem plist_lst (o : Bool) (xs : List PV) : plist [.lst o xs] = guard (PV.pures xs = true) (some (.lst true xs)) := rfl
@[simp] theorem plist_zls (xs : List PV) : plist [.zls xs] = guard (PV.pures xs = true) (some (.lst true xs)) := rfl
@[simp] theorem ptuple_tup (xs : List PV) : ptuple [.tup xs] = guard (PV.pures xs = true) (some (.tup xs)) := rfl
@[simp] theorem ptuple_lst (o : Bool) (xs : List PV) : ptuple [.lst o xs] = guard (PV.pures xs = true) (some (.tup xs)) := rfl
@[simp] theorem gAppend_lst (xs : List PV) (v : PV) : gAppend (.lst true xs) [v] = guard (xs.length < 16777216) (some (.lst true (xs ++ [v]), .non)) := rfl
@[simp] theorem gExtend_lst (xs ys : List PV) (o : Bool) : gExtend (.lst true xs) [.lst o ys] = guard (PV.pures ys = true ∧ xs.length + ys.length ≤ 16777216) (some (.lst true (xs ++ ys), .non)) := rfl
@[simp] theorem padd_tup (xs ys : List PV) : padd (.tup xs) (.tup ys) = guard (PV.pures xs = true ∧ PV.pures ys = true ∧ xs.length + ys.length ≤ 16777216) (some (.tup (xs ++ ys))) := rfl
@[simp] theorem padd_lst (o p : Bool) (xs ys : List PV) : padd (.lst o xs) (.lst p ys) = guard (PV.pures xs = true ∧ PV.pures ys = true ∧ xs.length + ys.length ≤ 16777216) (some (.lst true (xs ++ ys))) := rfl
@[simp] theorem pmul_lst (o : Bool) (xs : List PV) (k : Int) : pmul (.lst o xs) (.int k) = guard (PV.pures xs = true ∧ -9223372036854775808 ≤ k ∧ k < 9223372036854775808 ∧ xs.length * k.toNat ≤ 16777216) (some (.lst true (reps k.toNat xs))) := rfl
/-! items -/
@[simp] theorem pgetI_tup (xs : List PV) (i : Int) : pgetI (.tup xs) (.int i) = atI xs i := rfl
@[simp] theorem pgetI_lst (o : Bool) (xs : List PV) (i : Int) : pgetI (.lst o xs) (.int i) = atI xs i := rfl
@[simp] theorem pgetI_zls (xs : List PV) (i : Int) : pgetI (.zls xs) (.int i) = atI xs i := rfl
theorem ixN_pos {n : Nat} {i : Int} (h : 0 ≤ i) (k : i < n) : ixN n i = some i.toNat := by unfold ixN; rw [if_pos h, if_pos k]
theorem ixN_neg {n : Nat} {i : Int} (h : i < 0) (k : -(n : Int) ≤ i) : ixN n i = some (i + n).toNat := by unfold ixN; rw [if_neg (by omega), if_pos k]
@[simp] theorem atI_mp {α β : Type} (f : α → β) (xs : List α) (i : Int) : atI (xs.map f) i = (atI xs i).map f := by
  unfold atI
  rw [List.length_map]
  cases ixN xs.length i <;> simp
theorem atI_pos {α : Type} {xs : List α} {i : Int} (h : 0 ≤ i) (k : i < xs.length) : atI xs i = some (xs[i.toNat]'(by omega)) := by
  unfold atI
  rw [ixN_pos h k]
  simp
theorem atI_d {α : Type} {xs : List α} {i : Int} (d : α) (h : 0 ≤ i) (k : i < xs.length) : atI xs i = some (xs.getD i.toNat d) := by
  rw [atI_pos h k]
  have : i.toNat < xs.length := by omega
  simp [this]
@[simp] theorem atI_z0 {α : Type} (x : α) (xs : List α) : atI (x :: xs) 0 = some x := by unfold atI ixN; simp
theorem atI_succ {α : Type} (x : α) (xs : List α) (n : Nat) : atI (x :: xs) ((n + 1 : Nat) : Int) = atI xs n := by
  unfold atI ixN
  have h0 : (0 : Int) ≤ ((n + 1 : Nat) : Int) := by omega
  have h1 : (0 : Int) ≤ (n : Int) := by omega
  rw [if_pos h0, if_pos h1, List.length_cons]
  by_cases h : (n : Int) < xs.length
  · rw [if_pos h, if_pos (by omega)]
    simp
  · rw [if_neg h, if_neg (by omega)]
    rfl
@[simp] theorem atI_z1 {α : Type} (x y : α) (xs : List α) : atI (x :: y :: xs) 1 = some y := (atI_succ x (y :: xs) 0).trans (atI_z0 ..)
@[simp] theorem atI_z2 {α : Type} (x y z : α) (xs : List α) : atI (x :: y :: z :: xs) 2 = some z := (atI_succ x _ 1).trans (atI_z1 ..)
@[simp] theorem atI_z3 {α : Type} (x y z w : α) (xs : List α) : atI (x :: y :: z :: w :: xs) 3 = some w := (atI_succ x _ 2).trans (atI_z2 ..)
@[simp] theorem atI_last {α : Type} (xs : List α) (x : α) : atI (xs ++ [x]) (-1) = some x := by
  unfold atI
  rw [ixN_neg (by omega) (by simp; omega)]
  simp
  have : (-1 + ((xs.length : Int) + 1)).toNat = xs.length := by omega
  rw [this]
  simp
@[simp] theorem psetI_lst (xs : List PV) (k : Int) (v : PV) : psetI (.lst true xs) (.int k) v = (ixN xs.length k).map fun j => .lst true (xs.set j v) := rfl
@[simp] theorem ixN_1_0 : ixN 1 0 = some 0 := rfl
@[simp] theorem ixN_4_1 : ixN 4 1 = some 1 := rfl
@[simp] theorem ixN_4_2 : ixN 4 2 = some 2 := rfl
@[simp] theorem ixN_4_3 : ixN 4 3 = some 3 := rfl
@[simp] theorem spure_un : Slot.un.pure = true := rfl
@[simp] theorem spure_val (v : PV) : (Slot.val v).pure = v.pure := rfl
@[simp] theorem spure_ref (v : PV) : (Slot.ref v).pure = v.pure := rfl
@[simp] theorem pureW_nil (vs : List Nat) (k : Nat) : pureW vs k [] = true := rfl
@[simp] theorem pureW_cons (vs : List Nat) (k : Nat) (s : Slot) (ρ : Rho) : pureW vs k (s :: ρ) = ((!(decide (k ∈ vs)) || s.pure) && pureW vs (k + 1) ρ) := rfl
@[simp] theorem mskR_nil (vs : List Nat) (k : Nat) : mskR vs k [] = [] := rfl
@[simp] theorem mskR_cons (vs : List Nat) (k : Nat) (s : Slot) (ρ : Rho) : mskR vs k (s :: ρ) = (if k ∈ vs then .un else s) :: mskR vs (k + 1) ρ := rfl
@[simp] theorem bckR_nil (vs : List Nat) (k : Nat) : bckR vs k [] [] = [] := rfl
@[simp] theorem bckR_cons (vs : List Nat) (k : Nat) (s s0 : Slot) (ρ ρ0 : Rho) : bckR vs k (s :: ρ) (s0 :: ρ0) = (if k ∈ vs then s0 else s) :: bckR vs (k + 1) ρ ρ0 := rfl
@[simp] theorem ofStr_eq (a b : String) : (Str.ofString a = Str.ofString b) = (a = b) := propext ⟨fun h => by
  rw [Str.ofString_eq_toList, Str.ofString_eq_toList] at h
  have h1 := congrArg (fun x : Str => x.cps.toList) h
  simp at h1
  have inj : ∀ (xs ys : List Char), xs.map Char.toNat = ys.map Char.toNat → xs = ys := by
    intro xs
    induction xs with
    | nil => intro ys e; cases ys <;> simp_all
    | cons x xs ih =>
      intro ys e
      cases ys with
      | nil => simp at e
      | cons y ys =>
        simp at e
        have : x = y := Char.ext (UInt32.toNat_inj.mp e.1)
        rw [this, ih ys e.2]
  have h2 := inj _ _ h1
  exact String.toList_inj.mp h2, fun h => by rw [h]⟩
@[simp] theorem psl_tup (xs : List PV) (lo hi : Option Int) : psl (.tup xs) lo hi = guard (PV.pures xs = true) (some (.tup (cut xs lo hi))) := rfl
@[simp] theorem psl_lst (o : Bool) (xs : List PV) (lo hi : Option Int) : psl (.lst o xs) lo hi = guard (PV.pures xs = true) (some (.lst true (cut xs lo hi))) := rfl
@[simp] theorem cut_map {α β : Type} (f : α → β) (xs : List α) (lo hi : Option Int) : cut (xs.map f) lo hi = (cut xs lo hi).map f := by simp [cut]
@[simp] theorem cut_take {α : Type} (xs : List α) (k : Int) (h : 0 ≤ k) : cut xs none (some k) = xs.take k.toNat := by
  have e : HT.sIx xs.length xs.length (some k) = min k.toNat xs.length := by
    show (if k < 0 then _ else _) = _
    rw [if_neg (by omega)]
  unfold cut
  rw [e]
  show (xs.drop 0).take (min k.toNat xs.length - 0) = _
  rw [List.drop_zero, Nat.sub_zero]
  by_cases q : k.toNat ≤ xs.length
  · rw [Nat.min_eq_left q]
  · rw [Nat.min_eq_right (by omega), List.take_length, List.take_of_length_le (by omega)]
@[simp] theorem cut_drop {α : Type} (xs : List α) (k : Int) (h : 0 ≤ k) : cut xs (some k) none = xs.drop k.toNat := by
  have e : HT.sIx xs.length 0 (some k) = min k.toNat xs.length := by
    show (if k < 0 then _ else _) = _
    rw [if_neg (by omega)]
  unfold cut
  rw [e]
  show (xs.drop (min k.toNat xs.length)).take (xs.length - _) = _
  by_cases q : k.toNat ≤ xs.length
  · rw [Nat.min_eq_left q, List.take_of_length_le (by simp)]
  · rw [Nat.min_eq_right (by omega), List.drop_length, List.drop_of_length_le (by omega)]
    simp
@[simp] theorem cut_init {α : Type} (xs : List α) : cut xs none (some (-1)) = xs.dropLast := by
  have e : HT.sIx xs.length xs.length (some (-1)) = xs.length - 1 := by
    show (if (-1 : Int) < 0 then (-1 + (xs.length : Int)).toNat else min (-1 : Int).toNat xs.length) = _
    rw [if_pos (by omega)]
    omega
  unfold cut
  rw [e]
  show (xs.drop 0).take (xs.length - 1 - 0) = _
  rw [List.drop_zero, Nat.sub_zero, List.dropLast_eq_take]
@[simp] theorem intsOf_nil : intsOf [] = some [] := rfl
@[simp] theorem intsOf_cons (i : Int) (xs : List PV) : intsOf (.int i :: xs) = (intsOf xs).map (i :: ·) := by
  rw [intsOf]
  cases intsOf xs <;> rfl
@[simp] theorem intsOf_append : ∀ xs ys : List PV, intsOf (xs ++ ys) = (intsOf xs).bind fun a => (intsOf ys).map (a ++ ·)
  | [], ys => by
    rw [List.nil_append, intsOf_nil]
    cases intsOf ys <;> rfl
  | x :: xs, ys => by
    cases x with
    | int i =>
      rw [List.cons_append, intsOf_cons, intsOf_cons, intsOf_append xs ys]
      cases intsOf xs with
      | none => rfl
      | some a => cases intsOf ys <;> rfl
    | _ => rfl
@[simp] theorem psortset_lst (o : Bool) (xs : List PV) : psortset [.lst o xs] = (intsOf xs).bind fun ns => if ns.length < 64 then some (.lst true ((sset ns).map .int)) else none := rfl
@[simp] theorem psortset_tup (xs : List PV) : psortset [.tup xs] = (intsOf xs).bind fun ns => if ns.length < 64 then some (.lst true ((sset ns).map .int)) else none := rfl
theorem psum_lst_ (o : Bool) (xs : List PV) : psum [.lst o xs] = (intsOf xs).bind fun ns => some (.int ns.sum) := rfl
theorem psum_tup_ (xs : List PV) : psum [.tup xs] = (intsOf xs).bind fun ns => some (.int ns.sum) := rfl
theorem pures_iff : ∀ {xs : List PV}, PV.pures xs = true ↔ ∀ x ∈ xs, x.pure = true
  | [] => by simp
  | x :: xs => by rw [PVpures_cons, Bool.and_eq_true, pures_iff]; simp
@[simp] theorem pures_dropLast {xs : List PV} (h : PV.pures xs = true) : PV.pures xs.dropLast = true := pures_iff.mpr fun x hx => pures_iff.mp h x ((List.dropLast_sublist _).mem hx)
@[simp] theorem pures_take {n : Nat} {xs : List PV} (h : PV.pures xs = true) : PV.pures (xs.take n) = true := pures_iff.mpr fun x hx => pures_iff.mp h x (List.mem_of_mem_take hx)
@[simp] theorem pures_drop {n : Nat} {xs : List PV} (h : PV.pures xs = true) : PV.pures (xs.drop n) = true := pures_iff.mpr fun x hx => pures_iff.mp h x (List.mem_of_mem_drop hx)
@[simp] theorem pures_reverse {xs : List PV} : PV.pures xs.reverse = PV.pures xs := by
  rw [Bool.eq_iff_iff, pures_iff, pures_iff]
  simp
/-! in -/
@[simp] theorem eqF_int (i j : Int) : eqF (.int i) (.int j) = (i == j) := rfl
@[simp] theorem eqF_str (i j : Str) : eqF (.str i) (.str j) = (i == j) := rfl
theorem all_flat : ∀ xs : List Int, (xs.map PV.int).all flatP = true
  | [] => rfl
  | x :: xs => by rw [List.map_cons, List.all_cons, all_flat xs] <;> rfl
theorem any_int (k : Int) : ∀ xs : List Int, (xs.map PV.int).any (fun y => eqF y (.int k)) = decide (k ∈ xs)
  | [] => rfl
  | x :: xs => by
    rw [List.map_cons, List.any_cons, any_int k xs]
    show (x == k || decide (k ∈ xs)) = _
    by_cases h : x = k
    · subst h; simp
    · have : (x == k) = false := by simpa using h
      rw [this]
      have h2 : ¬ k = x := fun e => h e.symm
      simp [h2]
theorem pinB_tup (k : Int) (xs : List Int) : pinB (.int k) (.tup (xs.map .int)) = some (decide (k ∈ xs)) := by
  show guard _ _ = _
  rw [guard_pos ⟨rfl, all_flat xs⟩, any_int]
theorem pinB_lst (k : Int) (o : Bool) (xs : List Int) : pinB (.int k) (.lst o (xs.map .int)) = some (decide (k ∈ xs)) := by
  show (if _ then _ else _) = _
  rw [if_pos ⟨rfl, all_flat xs⟩, any_int]
@[simp] theorem pin_tup (k : Int) (xs : List Int) : pin (.int k) (.tup (xs.map .int)) = some (.bl (decide (k ∈ xs))) := by unfold pin; rw [pinB_tup] <;> rfl
@[simp] theorem pnin_tup (k : Int) (xs : List Int) : pnin (.int k) (.tup (xs.map .int)) = some (.bl (!decide (k ∈ xs))) := by unfold pnin; rw [pinB_tup] <;> rfl
@[simp] theorem pin_lst (k : Int) (o : Bool) (xs : List Int) : pin (.int k) (.lst o (xs.map .int)) = some (.bl (decide (k ∈ xs))) := by unfold pin; rw [pinB_lst] <;> rfl
@[simp] theorem pnin_lst (k : Int) (o : Bool) (xs : List Int) : pnin (.int k) (.lst o (xs.map .int)) = some (.bl (!decide (k ∈ xs))) := by unfold pnin; rw [pinB_lst] <;> rfl
end GX

/-! GX: values that are alike, and their repr. -/
namespace GX
open PySem PySem.Spec PyProof.Rows L2

/-- v is the data d, that can be shown: depth at most k, weight at most n -/
structure Sh (k n : Nat) (v : PV) (d : PyData) : Prop where
  t : toD v = some d
  c : d.canLay0 = true
  i : d.intsShort 41 = true
  s : d.showable = true
  k : d.depth ≤ k
  n : d.weight ≤ n
structure ShL (k n : Nat) (v : List PV) (d : List PyData) : Prop where
  t : toDs v = some d
  c : PyData.canLayAll0 d = true
  i : PyData.intsShortAll 41 d = true
  s : PyData.showableAll d = true
  k : PyData.depthAll d ≤ k
  n : PyData.weightAll d ≤ n
theorem Sh.mono {k n k' n' : Nat} {v : PV} {d : PyData} (h : Sh k n v d) (hk : k ≤ k') (hn : n ≤ n') : Sh k' n' v d := ⟨h.t, h.c, h.i, h.s, Nat.le_trans h.k hk, Nat.le_trans h.n hn⟩
theorem ShL.mono {k n k' n' : Nat} {v : List PV} {d : List PyData} (h : ShL k n v d) (hk : k ≤ k') (hn : n ≤ n') : ShL k' n' v d := ⟨h.t, h.c, h.i, h.s, Nat.le_trans h.k hk, Nat.le_trans h.n hn⟩
theorem sh_non : Sh 0 0 .non .none := ⟨rfl, rfl, rfl, rfl, Nat.le_refl _, Nat.le_refl _⟩
theorem sh_bl (b : Bool) : Sh 0 0 (.bl b) (.bool b) := ⟨rfl, rfl, rfl, rfl, Nat.le_refl _, Nat.le_refl _⟩
theorem log2_lt_p {n m : Nat} (h : n < 2 ^ m) (hm : 0 < m) : n.log2 < m := by
  by_cases h0 : n = 0
  · subst h0; simpa using hm
  · exact (Nat.log2_lt h0).mpr h
theorem sh_int (i : Int) (h : i.natAbs < 1000000000000000000000000000000000000000) : Sh 0 140 (.int i) (.int i) := by
  have l : i.natAbs.log2 < 133 := log2_lt_p (Nat.lt_of_lt_of_le h (by decide)) (by decide)
  refine ⟨rfl, rfl, ?_, ?_, Nat.le_refl _, ?_⟩
  · have e := int_text_length_le10 (k := 40) (by decide) (Nat.lt_of_lt_of_le h (by decide))
    simp only [PyData.intsShort, decide_eq_true_eq]
    show (Str.ofString (toString i)).length ≤ 41
    rw [PySem.ofString_length]; exact e
  · simp only [PyData.showable, decide_eq_true_eq]; omega
  · show (if i == 0 then 0 else i.natAbs.log2 + 1) ≤ 140
    split <;> omega
theorem sh_str (x : Str) (h : PyData.strOk x = true) : Sh 0 x.cps.size (.str x) (.str x) := ⟨rfl, by simpa only [PyData.canLay0] using h, rfl, rfl, Nat.le_refl _, by simp only [PyData.weight]; exact Nat.le_refl _⟩
theorem shL_nil {k : Nat} : ShL k 0 [] [] := ⟨rfl, rfl, rfl, rfl, Nat.zero_le _, Nat.le_refl _⟩
theorem shL_cons {k n m : Nat} {v : PV} {vs : List PV} {d : PyData} {ds : List PyData} (h : Sh k n v d) (t : ShL k m vs ds) : ShL k (n + 1 + m) (v :: vs) (d :: ds) := by
  refine ⟨?_, ?_, ?_, ?_, ?_, ?_⟩
  · rw [toDs, h.t]; simp only [Option.bind_some]; rw [t.t]; rfl
  · simp only [PyData.canLayAll0, h.c, t.c, Bool.and_self]
  · simp only [PyData.intsShortAll, h.i, t.i, Bool.and_self]
  · simp only [PyData.showableAll, h.s, t.s, Bool.and_self]
  · simp only [PyData.depthAll]; exact Nat.max_le.mpr ⟨h.k, t.k⟩
  · simp only [PyData.weightAll]; have := h.n; have := t.n; omega
theorem shL_map {α : Type} {k n : Nat} {f : α → PV} {g : α → PyData} : ∀ {xs : List α}, (∀ x ∈ xs, Sh k n (f x) (g x)) → ShL k ((n + 1) * xs.length) (xs.map f) (xs.map g)
  | [], _ => shL_nil
  | x :: xs, h => by
    have := shL_cons (h x (List.mem_cons_self ..)) (shL_map fun y hy => h y (List.mem_cons_of_mem _ hy))
    exact this.mono (Nat.le_refl _) (by rw [List.length_cons, Nat.mul_succ]; omega)
theorem sh_tup {k n : Nat} {vs : List PV} {ds : List PyData} (h : ShL k n vs ds) : Sh (k + 1) n (.tup vs) (.tuple ds) :=
  ⟨by rw [toD, h.t]; rfl, by simpa only [PyData.canLay0] using h.c, by simpa only [PyData.intsShort] using h.i, by simpa only [PyData.showable] using h.s, by simp only [PyData.depth]; have := h.k; omega, by simpa only [PyData.weight] using h.n⟩
theorem sh_lst {k n : Nat} {vs : List PV} {ds : List PyData} {o : Bool} (h : ShL k n vs ds) : Sh (k + 1) n (.lst o vs) (.list ds) :=
  ⟨by rw [toD, h.t]; rfl, by simpa only [PyData.canLay0] using h.c, by simpa only [PyData.intsShort] using h.i, by simpa only [PyData.showable] using h.s, by simp only [PyData.depth]; have := h.k; omega, by simpa only [PyData.weight] using h.n⟩
mutual
theorem eqv_rfl : ∀ d : PyData, d.hasDict = false → PyData.eqv d d = true
  | .none, _ => rfl
  | .bool b, _ => by simp [PyData.eqv]
  | .int i, _ => by simp [PyData.eqv]
  | .str x, _ => by simp [PyData.eqv]
  | .list xs, h => by simp only [PyData.eqv]; exact eqvs_rfl xs (by simpa only [PyData.hasDict] using h)
  | .tuple xs, h => by simp only [PyData.eqv]; exact eqvs_rfl xs (by simpa only [PyData.hasDict] using h)
  | .dict _, h => by simp [PyData.hasDict] at h
theorem eqvs_rfl : ∀ d : List PyData, PyData.hasDictAll d = false → PyData.eqvAll d d = true
  | [], _ => by simp [PyData.eqvAll]
  | x :: xs, h => by
    simp only [PyData.hasDictAll, Bool.or_eq_false_iff] at h
    simp only [PyData.eqvAll, eqv_rfl x h.1, eqvs_rfl xs h.2, Bool.and_self]
end
theorem toD_scal {a b : PV} {d : PyData} {c : Bool} (ha : toD a = some d) (hb : toD b = some d) (h : scalP a b = some c) : c = true := by
  unfold scalP at h
  split at h <;> (try (cases ha; cases hb; done)) <;> (try cases ha) <;> (try cases hb) <;> simp_all
theorem peqB_same {a b : PV} {d : PyData} (ha : toD a = some d) (hb : toD b = some d) (hc : d.canLay0 = true) (hk : d.depth ≤ 64) : peqB a b = some true := by
  unfold peqB
  split
  · rename_i c e
    rw [toD_scal ha hb e]
  · unfold deepEq
    rw [ha, hb]
    simp only [Option.bind_some]
    have sh : SeqAt.shaped d = true := by
      show (d.canLay0 && decide (d.depth ≤ 64)) = true
      simp [hc, hk]
    rw [guard_pos ⟨sh, sh⟩, eqv_rfl d (toD_flat ha)]
theorem Sh.peq {k n k' n' : Nat} {a b : PV} {d : PyData} (ha : Sh k n a d) (hb : Sh k' n' b d) (h : k ≤ 64) : peq a b = some (.bl true) := by
  unfold GX.peq
  rw [peqB_same ha.t hb.t ha.c (Nat.le_trans ha.k h)]
  rfl
theorem Sh.pne {k n k' n' : Nat} {a b : PV} {d : PyData} (ha : Sh k n a d) (hb : Sh k' n' b d) (h : k ≤ 64) : pne a b = some (.bl false) := by
  unfold GX.pne
  rw [peqB_same ha.t hb.t ha.c (Nat.le_trans ha.k h)]
  rfl
theorem Sh.prepr {k n : Nat} {a : PV} {d : PyData} (ha : Sh k n a d) (hk : k ≤ 60) (hn : n ≤ 380000) : prepr [a] = some (.str d.shown) := by
  show (toD a).bind _ = _
  rw [ha.t]
  simp only [Option.bind_some]
  have := PyData.shown_le 41 (by decide) d (PyData.leavesShort_of_canLay0 41 d ha.c ha.i)
  have h1 := ha.n
  have h2 := ha.k
  rw [if_pos ⟨ha.s, by omega, by omega⟩]
/-- two values that are alike, also as they are shown -/
def Alike (a b : PV) : Prop := ∃ k n d, Sh k n a d ∧ Sh k n b d ∧ k ≤ 60 ∧ n ≤ 380000
theorem alike {k n k' n' : Nat} {a b : PV} {d d' : PyData} (ha : Sh k n a d) (hb : Sh k' n' b d') (e : d = d') (hk : k ≤ 60) (hn : n ≤ 380000) (hk' : k' ≤ 60) (hn' : n' ≤ 380000) : Alike a b := by
  subst e
  exact ⟨max k k', max n n', d, ha.mono (Nat.le_max_left ..) (Nat.le_max_left ..), hb.mono (Nat.le_max_right ..) (Nat.le_max_right ..), by omega, by omega⟩
theorem alike_self {k n : Nat} {a : PV} {d : PyData} (ha : Sh k n a d) (hk : k ≤ 60) (hn : n ≤ 380000) : Alike a a := ⟨k, n, d, ha, ha, hk, hn⟩
theorem Alike.peq {a b : PV} (h : Alike a b) : GX.peq a b = some (.bl true) := by
  obtain ⟨k, n, d, ha, hb, hk, hn⟩ := h
  exact ha.peq hb (by omega)
theorem Alike.repr {a b : PV} (h : Alike a b) : ∃ x, GX.prepr [a] = some (.str x) ∧ GX.prepr [b] = some (.str x) := by
  obtain ⟨k, n, d, ha, hb, hk, hn⟩ := h
  exact ⟨_, ha.prepr hk hn, hb.prepr hk hn⟩
theorem toDs_ints : ∀ xs : List Int, toDs (xs.map .int) = some (xs.map PyData.int)
  | [] => rfl
  | x :: xs => by rw [List.map_cons, toDs, toDs_ints xs] <;> rfl
theorem canLay_ints : ∀ xs : List Int, PyData.canLayAll0 (xs.map PyData.int) = true
  | [] => rfl
  | x :: xs => by simp only [List.map_cons, PyData.canLayAll0, PyData.canLay0, canLay_ints xs, Bool.and_self]
theorem depth_ints : ∀ xs : List Int, PyData.depthAll (xs.map PyData.int) = 0
  | [] => by simp only [List.map_nil, PyData.depthAll]
  | x :: xs => by simp only [List.map_cons, PyData.depthAll, PyData.depth, depth_ints xs, Nat.max_self]
theorem eqv_ints : ∀ xs ys : List Int, PyData.eqvAll (xs.map PyData.int) (ys.map PyData.int) = decide (xs = ys)
  | [], [] => by simp [PyData.eqvAll]
  | [], y :: ys => by simp [PyData.eqvAll]
  | x :: xs, [] => by simp [PyData.eqvAll]
  | x :: xs, y :: ys => by
    simp only [List.map_cons, PyData.eqvAll, PyData.eqv, eqv_ints xs ys]
    by_cases h : x = y <;> simp [h]
theorem shaped_tupI (xs : List Int) : SeqAt.shaped (.tuple (xs.map PyData.int)) = true := by
  show (PyData.canLay0 _ && decide (PyData.depth _ ≤ 64)) = true
  simp only [PyData.canLay0, canLay_ints, PyData.depth, depth_ints] <;> decide
theorem shaped_lstI (xs : List Int) : SeqAt.shaped (.list (xs.map PyData.int)) = true := by
  show (PyData.canLay0 _ && decide (PyData.depth _ ≤ 64)) = true
  simp only [PyData.canLay0, canLay_ints, PyData.depth, depth_ints] <;> decide
theorem peqB_tupI (xs ys : List Int) : peqB (.tup (xs.map .int)) (.tup (ys.map .int)) = some (decide (xs = ys)) := by
  show deepEq _ _ = _
  unfold deepEq
  simp only [toD, toDs_ints, Option.map_some, Option.bind_some]
  rw [guard_pos ⟨shaped_tupI xs, shaped_tupI ys⟩]
  simp only [PyData.eqv, eqv_ints]
theorem peqB_lstI (o p : Bool) (xs ys : List Int) : peqB (.lst o (xs.map .int)) (.lst p (ys.map .int)) = some (decide (xs = ys)) := by
  show deepEq _ _ = _
  unfold deepEq
  simp only [toD, toDs_ints, Option.map_some, Option.bind_some]
  rw [guard_pos ⟨shaped_lstI xs, shaped_lstI ys⟩]
  simp only [PyData.eqv, eqv_ints]
@[simp] theorem peq_tupI (xs ys : List Int) : peq (.tup (xs.map .int)) (.tup (ys.map .int)) = some (.bl (decide (xs = ys))) := by unfold peq; rw [peqB_tupI] <;> rfl
@[simp] theorem pne_tupI (xs ys : List Int) : pne (.tup (xs.map .int)) (.tup (ys.map .int)) = some (.bl (!decide (xs = ys))) := by unfold pne; rw [peqB_tupI] <;> rfl
@[simp] theorem peq_lstI (o p : Bool) (xs ys : List Int) : peq (.lst o (xs.map .int)) (.lst p (ys.map .int)) = some (.bl (decide (xs = ys))) := by unfold peq; rw [peqB_lstI] <;> rfl
@[simp] theorem pne_lstI (o p : Bool) (xs ys : List Int) : pne (.lst o (xs.map .int)) (.lst p (ys.map .int)) = some (.bl (!decide (xs = ys))) := by unfold pne; rw [peqB_lstI] <;> rfl
@[simp] theorem peq_lstI0 (o p : Bool) (xs : List Int) : peq (.lst o (xs.map .int)) (.lst p []) = some (.bl (decide (xs = []))) := peq_lstI o p xs []
end GX

set_option maxHeartbeats 0
namespace Xk36
open PySem PySem.Spec PyProof.Rows L2 GX
def topS (i : Nat) : Stmt := PySem.Challenge.pw_owedthen_k36_days_of_business.main.body.getD i (.Pass ⟨0, 0, 0, 0⟩)
abbrev s__law_start : Stmt := topS 32
theorem sc__law_start : FnScope ["script", "seed", "cell"] ["script"] (defScope s__law_start) := ⟨rfl, rfl, rfl, by decide +kernel, rfl, by decide +kernel, by decide +kernel⟩
abbrev s__law_same : Stmt := topS 35
theorem sc__law_same : FnScope ["actual", "due"] ["actual", "due"] (defScope s__law_same) := ⟨rfl, rfl, rfl, by decide +kernel, rfl, by decide +kernel, by decide +kernel⟩
abbrev s__law_draw : Stmt := topS 33
theorem sc__law_draw : FnScope ["state", "many", "value"] ["state", "many"] (defScope s__law_draw) := ⟨rfl, rfl, rfl, by decide +kernel, rfl, by decide +kernel, by decide +kernel⟩
abbrev s__law_rising : Stmt := topS 36
theorem sc__law_rising : FnScope ["state", "most", "many", "k"] ["state", "most", "many"] (defScope s__law_rising) := ⟨rfl, rfl, rfl, by decide +kernel, rfl, by decide +kernel, by decide +kernel⟩
abbrev s__law_pick : Stmt := topS 34
theorem sc__law_pick : FnScope ["state", "some"] ["state", "some"] (defScope s__law_pick) := ⟨rfl, rfl, rfl, by decide +kernel, rfl, by decide +kernel, by decide +kernel⟩
abbrev s__law_calendar : Stmt := topS 37
theorem sc__law_calendar : FnScope ["state"] ["state"] (defScope s__law_calendar) := ⟨rfl, rfl, rfl, by decide +kernel, rfl, by decide +kernel, by decide +kernel⟩
abbrev s__law_other : Stmt := topS 44
theorem sc__law_other : FnScope ["state", "calendar", "rest", "holidays", "some", "day"] ["state", "calendar"] (defScope s__law_other) := ⟨rfl, rfl, rfl, by decide +kernel, rfl, by decide +kernel, by decide +kernel⟩
abbrev s_rising : Stmt := topS 11
theorem sc_rising : FnScope ["row", "at"] ["row"] (defScope s_rising) := ⟨rfl, rfl, rfl, by decide +kernel, rfl, by decide +kernel, by decide +kernel⟩
abbrev s_is_integer : Stmt := topS 5
theorem sc_is_integer : FnScope ["value"] ["value"] (defScope s_is_integer) := ⟨rfl, rfl, rfl, by decide +kernel, rfl, by decide +kernel, by decide +kernel⟩
abbrev s_check_calendar : Stmt := topS 10
theorem sc_check_calendar : FnScope ["calendar", "rest", "holidays", "part", "day"] ["calendar"] (defScope s_check_calendar) := ⟨rfl, rfl, rfl, by decide +kernel, rfl, by decide +kernel, by decide +kernel⟩
abbrev s_check_day : Stmt := topS 12
theorem sc_check_day : FnScope ["day", "reason"] ["day", "reason"] (defScope s_check_day) := ⟨rfl, rfl, rfl, by decide +kernel, rfl, by decide +kernel, by decide +kernel⟩
abbrev s_check_count : Stmt := topS 22
theorem sc_check_count : FnScope ["count"] ["count"] (defScope s_check_count) := ⟨rfl, rfl, rfl, by decide +kernel, rfl, by decide +kernel, by decide +kernel⟩
abbrev s_open_ahead : Stmt := topS 19
theorem sc_open_ahead : FnScope ["calendar", "day", "weeks", "left", "rest", "plain", "own"] ["calendar", "day"] (defScope s_open_ahead) := ⟨rfl, rfl, rfl, by decide +kernel, rfl, by decide +kernel, by decide +kernel⟩
abbrev s_with_ahead : Stmt := topS 23
theorem sc_with_ahead : FnScope ["calendar", "goal", "low", "high", "middle"] ["calendar", "goal"] (defScope s_with_ahead) := ⟨rfl, rfl, rfl, by decide +kernel, rfl, by decide +kernel, by decide +kernel⟩
abbrev s_add_open : Stmt := topS 21
theorem sc_add_open : FnScope ["calendar", "day", "count", "goal"] ["calendar", "day", "count"] (defScope s_add_open) := ⟨rfl, rfl, rfl, by decide +kernel, rfl, by decide +kernel, by decide +kernel⟩
abbrev s_open_between : Stmt := topS 20
theorem sc_open_between : FnScope ["calendar", "first", "last"] ["calendar", "first", "last"] (defScope s_open_between) := ⟨rfl, rfl, rfl, by decide +kernel, rfl, by decide +kernel, by decide +kernel⟩
abbrev s_open_on : Stmt := topS 13
theorem sc_open_on : FnScope ["calendar", "day"] ["calendar", "day"] (defScope s_open_on) := ⟨rfl, rfl, rfl, by decide +kernel, rfl, by decide +kernel, by decide +kernel⟩
abbrev s_next_open : Stmt := topS 15
theorem sc_next_open : FnScope ["calendar", "day"] ["calendar", "day"] (defScope s_next_open) := ⟨rfl, rfl, rfl, by decide +kernel, rfl, by decide +kernel, by decide +kernel⟩
abbrev s_last_open : Stmt := topS 16
theorem sc_last_open : FnScope ["calendar", "day"] ["calendar", "day"] (defScope s_last_open) := ⟨rfl, rfl, rfl, by decide +kernel, rfl, by decide +kernel, by decide +kernel⟩
abbrev s_moved_to : Stmt := topS 18
theorem sc_moved_to : FnScope ["calendar", "day", "way", "later", "sooner"] ["calendar", "day", "way"] (defScope s_moved_to) := ⟨rfl, rfl, rfl, by decide +kernel, rfl, by decide +kernel, by decide +kernel⟩
abbrev s_moved : Stmt := topS 17
theorem sc_moved : FnScope ["calendar", "day", "way"] ["calendar", "day", "way"] (defScope s_moved) := ⟨rfl, rfl, rfl, by decide +kernel, rfl, by decide +kernel, by decide +kernel⟩
abbrev s_is_open : Stmt := topS 14
theorem sc_is_open : FnScope ["calendar", "day"] ["calendar", "day"] (defScope s_is_open) := ⟨rfl, rfl, rfl, by decide +kernel, rfl, by decide +kernel, by decide +kernel⟩
abbrev s_take_open : Stmt := topS 24
theorem sc_take_open : FnScope ["calendar", "day", "count", "goal"] ["calendar", "day", "count"] (defScope s_take_open) := ⟨rfl, rfl, rfl, by decide +kernel, rfl, by decide +kernel, by decide +kernel⟩
abbrev s_judge_by : Stmt := topS 27
theorem sc_judge_by : FnScope ["calendar", "begin", "count", "end", "there"] ["calendar", "begin", "count", "end"] (defScope s_judge_by) := ⟨rfl, rfl, rfl, by decide +kernel, rfl, by decide +kernel, by decide +kernel⟩
abbrev s__law_open : Stmt := topS 38
theorem sc__law_open : FnScope ["calendar", "day"] ["calendar", "day"] (defScope s__law_open) := ⟨rfl, rfl, rfl, by decide +kernel, rfl, by decide +kernel, by decide +kernel⟩
abbrev s_accept_late : Stmt := topS 29
theorem sc_accept_late : FnScope ["calendar", "begin", "count", "end", "days", "day"] ["calendar", "begin", "count", "end", "days"] (defScope s_accept_late) := ⟨rfl, rfl, rfl, by decide +kernel, rfl, by decide +kernel, by decide +kernel⟩
abbrev s_accept_by : Stmt := topS 28
theorem sc_accept_by : FnScope ["calendar", "begin", "count", "end", "days", "day"] ["calendar", "begin", "count", "end", "days"] (defScope s_accept_by) := ⟨rfl, rfl, rfl, by decide +kernel, rfl, by decide +kernel, by decide +kernel⟩
abbrev s__law_next : Stmt := topS 39
theorem sc__law_next : FnScope ["calendar", "day", "many"] ["calendar", "day", "many"] (defScope s__law_next) := ⟨rfl, rfl, rfl, by decide +kernel, rfl, by decide +kernel, by decide +kernel⟩
abbrev s__law_by_holds : Stmt := topS 43
theorem sc__law_by_holds : FnScope ["state", "calendar", "day", "many", "end", "there", "told", "rest", "own"] ["state", "calendar", "day"] (defScope s__law_by_holds) := ⟨rfl, rfl, rfl, by decide +kernel, rfl, by decide +kernel, by decide +kernel⟩
abbrev s_same_days : Stmt := topS 30
theorem sc_same_days : FnScope ["first", "second", "day"] ["first", "second"] (defScope s_same_days) := ⟨rfl, rfl, rfl, by decide +kernel, rfl, by decide +kernel, by decide +kernel⟩
abbrev s_longest_rest : Stmt := topS 26
theorem sc_longest_rest : FnScope ["calendar", "first", "last", "best", "begin", "day"] ["calendar", "first", "last"] (defScope s_longest_rest) := ⟨rfl, rfl, rfl, by decide +kernel, rfl, by decide +kernel, by decide +kernel⟩
abbrev s__law_rest : Stmt := topS 42
theorem sc__law_rest : FnScope ["calendar", "first", "last", "best", "row", "day"] ["calendar", "first", "last"] (defScope s__law_rest) := ⟨rfl, rfl, rfl, by decide +kernel, rfl, by decide +kernel, by decide +kernel⟩
abbrev s__law_last : Stmt := topS 40
theorem sc__law_last : FnScope ["calendar", "day", "many"] ["calendar", "day", "many"] (defScope s__law_last) := ⟨rfl, rfl, rfl, by decide +kernel, rfl, by decide +kernel, by decide +kernel⟩
abbrev s__law_moved : Stmt := topS 41
theorem sc__law_moved : FnScope ["calendar", "day", "way", "later", "sooner"] ["calendar", "day", "way"] (defScope s__law_moved) := ⟨rfl, rfl, rfl, by decide +kernel, rfl, by decide +kernel, by decide +kernel⟩
abbrev s_due_days : Stmt := topS 25
theorem sc_due_days : FnScope ["calendar", "first", "step", "count", "way", "number"] ["calendar", "first", "step", "count", "way"] (defScope s_due_days) := ⟨rfl, rfl, rfl, by decide +kernel, rfl, by decide +kernel, by decide +kernel⟩
abbrev s_law : Stmt := topS 45
theorem sc_law : FnScope ["script", "state", "turn", "week", "calendar", "k", "other", "unlike", "day", "many", "told", "last", "step", "way", "due", "j", "own"] ["script"] (defScope s_law) := ⟨rfl, rfl, rfl, by decide +kernel, rfl, by decide +kernel, by decide +kernel⟩
def k_MAX_ROWS : PV := .int 60
def k_MAX_TIME : PV := .int 100000
def k_WAYS : PV := .tup [.str "following", .str "preceding", .str "nearest"]
noncomputable def _law_start_l1b : S :=
  sAsg (gNm 1) (cBin padd (oTm (cBin pmod (oTm (cCall pint (oCons (oTm (cBin padd (oTm (cBin pmul (oSl 1) (oTm (cC (.int 48271))))) (oSl 2))) oNil))) (oTm (cC (.int 2147483629))))) (oTm (cC (.int 1))))
noncomputable def _law_start_l1 : S := sFor (iVal (cName 0)) (gNm 2) _law_start_l1b
noncomputable def _law_startB : S :=
  sSeq (sAsg (gNm 1) (cC (.int 7))) <|
  sSeq (_law_start_l1) <|
  sRet (cLst (oCons (oTm (cCall plist (oCons (oSl 0) oNil))) (oCons (oTm (cC (.int 0))) (oCons (oTm (cC (.int 0))) (oCons (oTm (cName 1)) oNil)))))
noncomputable def _law_startF : Fn := fnRun 3 1 _law_startB
noncomputable def _law_sameB : S :=
  sRet (cAnd (cBin peq (oSl 0) (oSl 1)) (cBin peq (oTm (cCall prepr (oCons (oSl 0) oNil))) (oTm (cCall prepr (oCons (oSl 1) oNil)))))
noncomputable def _law_sameF : Fn := fnRun 2 2 _law_sameB
noncomputable def _law_drawB : S :=
  sSeq (sIf (mAnd (mVal (cBin peq (oSub (oSl 0) (oTm (cC (.int 1)))) (oTm (cC (.int 0))))) (mVal (cBin pge (oSub (oSl 0) (oTm (cC (.int 2)))) (oTm (cCall plen (oCons (oSub (oSl 0) (oTm (cC (.int 0)))) oNil)))))) (sSeq (sAsg (gIx 0 (cC (.int 3))) (cBin pmod (oTm (cCall pint (oCons (oTm (cBin padd (oTm (cBin pmul (oSub (oSl 0) (oTm (cC (.int 3)))) (oTm (cC (.int 48271))))) (oTm (cC (.int 69621))))) oNil))) (oTm (cC (.int 2147483629))))) <|
  sRet (cBin pmod (oTm (cCall pint (oCons (oTm (cBin pfdiv (oSub (oSl 0) (oTm (cC (.int 3)))) (oTm (cC (.int 13))))) oNil))) (oSl 1))) (sSkip)) <|
  sSeq (sIf (mVal (cBin peq (oSub (oSl 0) (oTm (cC (.int 1)))) (oTm (cC (.int 0))))) (sSeq (sAsg (gIx 0 (cC (.int 1))) (cCall pabs (oCons (oSub (oSub (oSl 0) (oTm (cC (.int 0)))) (oSub (oSl 0) (oTm (cC (.int 2))))) oNil))) <|
  sAsg (gIx 0 (cC (.int 2))) (cBin padd (oSub (oSl 0) (oTm (cC (.int 2)))) (oTm (cC (.int 1))))) (sSkip)) <|
  sSeq (sAsg (gNm 2) (cBin pmod (oTm (cCall pint (oCons (oSub (oSl 0) (oTm (cC (.int 1)))) oNil))) (oSl 1))) <|
  sSeq (sAsg (gIx 0 (cC (.int 1))) (cBin pfdiv (oSub (oSl 0) (oTm (cC (.int 1)))) (oSl 1))) <|
  sRet (cMov 2)
noncomputable def _law_drawF : Fn := fnRun 3 2 _law_drawB
noncomputable def _law_rising_c1 : M PV :=
  cComp [3] (iCall rng1 (oCons (oSl 2) oNil)) (gNm 3) (mYes) (cFn _law_drawF [] (oCons (oSl 0) (oCons (oSl 1) oNil)))
noncomputable def _law_risingB : S :=
  sRet (cCall ptuple (oCons (oTm (cCall psortset (oCons (oTm (_law_rising_c1)) oNil))) oNil))
noncomputable def _law_risingF : Fn := fnRun 4 3 _law_risingB
noncomputable def _law_pickB : S :=
  sRet (cSub (oSl 1) (oTm (cFn _law_drawF [] (oCons (oSl 0) (oCons (oTm (cCall plen (oCons (oSl 1) oNil))) oNil)))))
noncomputable def _law_pickF : Fn := fnRun 2 2 _law_pickB
noncomputable def _law_calendarB : S :=
  sRet (cTup (oCons (oTm (cSl (oTm (cFn _law_risingF [] (oCons (oSl 0) (oCons (oTm (cC (.int 7))) (oCons (oTm (cFn _law_drawF [] (oCons (oSl 0) (oCons (oTm (cC (.int 7))) oNil)))) oNil))))) (mNo) (mSome (cC (.int 6))))) (oCons (oTm (cFn _law_risingF [] (oCons (oSl 0) (oCons (oTm (cFn _law_pickF [] (oCons (oSl 0) (oCons (oTm (cLst (oCons (oTm (cC (.int 9))) (oCons (oTm (cC (.int 40))) (oCons (oTm (cC (.int 120))) oNil))))) oNil)))) (oCons (oTm (cFn _law_pickF [] (oCons (oSl 0) (oCons (oTm (cLst (oCons (oTm (cC (.int 0))) (oCons (oTm (cC (.int 2))) (oCons (oTm (cC (.int 9))) (oCons (oTm (cC (.int 40))) oNil)))))) oNil)))) oNil))))) oNil)))
noncomputable def _law_calendarF : Fn := fnRun 1 1 _law_calendarB
noncomputable def _law_other_l1b : S :=
  sExpr (cMut 4 "list" gAppend (oCons (oTm (cTup (oCons (oTm (cName 2)) (oCons (oTm (cCall ptuple (oCons (oTm (cCall psortset (oCons (oTm (cBin padd (oSl 3) (oTm (cTup (oCons (oTm (cName 5)) oNil))))) oNil))) oNil))) oNil)))) oNil))
noncomputable def _law_other_l1 : S := sFor (iVal (cLst (oCons (oTm (cFn _law_drawF [] (oCons (oSl 0) (oCons (oTm (cC (.int 50))) oNil)))) (oCons (oTm (cBin psub (oTm (cC (.int 100000))) (oTm (cFn _law_drawF [] (oCons (oSl 0) (oCons (oTm (cC (.int 7))) oNil)))))) oNil)))) (gNm 5) _law_other_l1b
noncomputable def _law_other_c1 : M PV :=
  cComp [5] (iVal (cName 3)) (gNm 5) (mVal (cBin pnin (oTm (cBin pmod (oTm (cCall pint (oCons (oSl 5) oNil))) (oTm (cC (.int 7))))) (oSl 2))) (cName 5)
noncomputable def _law_otherB : S :=
  sSeq (sAsg (gTp 2 (gsCons (gNm 2) (gsCons (gNm 3) (gsNil)))) (cName 1)) <|
  sSeq (sAsg (gNm 4) (cLst (oCons (oTm (cName 1)) (oCons (oTm (cFn _law_calendarF [] (oCons (oSl 0) oNil))) (oCons (oTm (cTup (oCons (oTm (cName 2)) (oCons (oTm (cSl (oSl 3) (mNo) (mSome (cUn pneg (oTm (cC (.int 1))))))) oNil)))) oNil))))) <|
  sSeq (_law_other_l1) <|
  sRet (cFn _law_pickF [] (oCons (oSl 0) (oCons (oTm (cBin padd (oSl 4) (oTm (cLst (oCons (oTm (cTup (oCons (oTm (cName 2)) (oCons (oTm (cCall ptuple (oCons (oTm (_law_other_c1)) oNil))) oNil)))) oNil))))) oNil)))
noncomputable def _law_otherF : Fn := fnRun 6 2 _law_otherB
noncomputable def rising_c1 : M PV :=
  cComp [1] (iCall rng1 (oCons (oTm (cBin psub (oTm (cCall plen (oCons (oSl 0) oNil))) (oTm (cC (.int 1))))) oNil)) (gNm 1) (mYes) (cBin plt (oSub (oSl 0) (oSl 1)) (oSub (oSl 0) (oTm (cBin padd (oSl 1) (oTm (cC (.int 1)))))))
noncomputable def risingB : S :=
  sRet (cCall pall (oCons (oTm (rising_c1)) oNil))
noncomputable def risingF : Fn := fnRun 2 1 risingB
noncomputable def is_integerB : S :=
  sRet (cAnd (cCall pisi (oCons (oSl 0) (oCons (oTm (cC (.ty "int"))) oNil))) (cNot (cCall pisi (oCons (oSl 0) (oCons (oTm (cC (.ty "bool"))) oNil)))))
noncomputable def is_integerF : Fn := fnRun 1 1 is_integerB
noncomputable def check_calendar_c1 : M PV :=
  cComp [3] (iVal (cName 0)) (gNm 3) (mYes) (cCall pisi (oCons (oSl 3) (oCons (oTm (cC (.ty "tuple"))) oNil)))
noncomputable def check_calendar_c2 : M PV :=
  cComp [4] (iVal (cName 1)) (gNm 4) (mYes) (cAnd (cFn is_integerF [] (oCons (oSl 4) oNil)) (cChain ple ple (oTm (cC (.int 0))) (oSl 4) (oTm (cC (.int 6)))))
noncomputable def check_calendar_c3 : M PV :=
  cComp [4] (iVal (cName 2)) (gNm 4) (mYes) (cAnd (cFn is_integerF [] (oCons (oSl 4) oNil)) (cChain ple ple (oTm (cC (.int 0))) (oSl 4) (oTm (cC k_MAX_TIME))))
noncomputable def check_calendarB : S :=
  sSeq (sIf (mOr (mNot (mVal (cCall pisi (oCons (oSl 0) (oCons (oTm (cC (.ty "tuple"))) oNil))))) (mOr (mVal (cBin pne (oTm (cCall plen (oCons (oSl 0) oNil))) (oTm (cC (.int 2))))) (mNot (mVal (cCall pall (oCons (oTm (check_calendar_c1)) oNil)))))) (sNever) (sSkip)) <|
  sSeq (sAsg (gTp 2 (gsCons (gNm 1) (gsCons (gNm 2) (gsNil)))) (cName 0)) <|
  sSeq (sIf (mOr (mVal (cBin pgt (oTm (cCall plen (oCons (oSl 1) oNil))) (oTm (cC (.int 6))))) (mNot (mVal (cCall pall (oCons (oTm (check_calendar_c2)) oNil))))) (sNever) (sSkip)) <|
  sSeq (sIf (mOr (mVal (cBin pgt (oTm (cCall plen (oCons (oSl 2) oNil))) (oTm (cC k_MAX_ROWS)))) (mNot (mVal (cCall pall (oCons (oTm (check_calendar_c3)) oNil))))) (sNever) (sSkip)) <|
  sIf (mOr (mNot (mVal (cFn risingF [] (oCons (oSl 1) oNil)))) (mNot (mVal (cFn risingF [] (oCons (oSl 2) oNil))))) (sNever) (sSkip)
noncomputable def check_calendarF : Fn := fnRun 5 1 check_calendarB
noncomputable def check_dayB : S :=
  sIf (mOr (mNot (mVal (cFn is_integerF [] (oCons (oSl 0) oNil)))) (mNot (mVal (cChain ple ple (oTm (cC (.int 0))) (oSl 0) (oTm (cC k_MAX_TIME)))))) (sNever) (sSkip)
noncomputable def check_dayF : Fn := fnRun 2 2 check_dayB
noncomputable def check_countB : S :=
  sIf (mOr (mNot (mVal (cFn is_integerF [] (oCons (oSl 0) oNil)))) (mNot (mVal (cChain ple ple (oTm (cC (.int 1))) (oSl 0) (oTm (cC k_MAX_TIME)))))) (sNever) (sSkip)
noncomputable def check_countF : Fn := fnRun 1 1 check_countB
noncomputable def open_ahead_c1 : M PV :=
  cComp [6] (iCall rng1 (oCons (oSl 3) oNil)) (gNm 6) (mVal (cBin pnin (oSl 6) (oSl 4))) (cName 6)
noncomputable def open_ahead_c2 : M PV :=
  cComp [6] (iVal (cSub (oSl 0) (oTm (cC (.int 1))))) (gNm 6) (mAnd (mVal (cBin plt (oSl 6) (oSl 1))) (mVal (cBin pnin (oTm (cBin pmod (oSl 6) (oTm (cC (.int 7))))) (oSl 4)))) (cName 6)
noncomputable def open_aheadB : S :=
  sSeq (sPar 2 3 (oCons (oTm (cBin pfdiv (oSl 1) (oTm (cC (.int 7))))) (oCons (oTm (cBin pmod (oSl 1) (oTm (cC (.int 7))))) oNil))) <|
  sSeq (sAsg (gNm 4) (cSub (oSl 0) (oTm (cC (.int 0))))) <|
  sSeq (sAsg (gNm 5) (cBin padd (oTm (cBin pmul (oSl 2) (oTm (cBin psub (oTm (cC (.int 7))) (oTm (cCall plen (oCons (oSl 4) oNil))))))) (oTm (cCall plen (oCons (oTm (open_ahead_c1)) oNil))))) <|
  sRet (cBin psub (oSl 5) (oTm (cCall plen (oCons (oTm (open_ahead_c2)) oNil))))
noncomputable def open_aheadF : Fn := fnRun 7 2 open_aheadB
noncomputable def with_ahead_l1t : M Bool :=
  mVal (cBin plt (oSl 2) (oSl 3))
noncomputable def with_ahead_l1b : S :=
  sSeq (sAsg (gNm 4) (cBin pfdiv (oTm (cBin padd (oSl 2) (oSl 3))) (oTm (cC (.int 2))))) <|
  sIf (mVal (cBin pge (oTm (cFn open_aheadF [] (oCons (oSl 0) (oCons (oTm (cBin padd (oSl 4) (oTm (cC (.int 1))))) oNil)))) (oSl 1))) (sAsg (gNm 3) (cName 4)) (sAsg (gNm 2) (cBin padd (oSl 4) (oTm (cC (.int 1)))))
noncomputable def with_ahead_l1 : S := sWhile with_ahead_l1t with_ahead_l1b
noncomputable def with_aheadB : S :=
  sSeq (sPar 2 3 (oCons (oTm (cC (.int 0))) (oCons (oTm (cBin pmul (oTm (cC (.int 7))) (oTm (cBin padd (oTm (cBin padd (oSl 1) (oTm (cCall plen (oCons (oSub (oSl 0) (oTm (cC (.int 1)))) oNil))))) (oTm (cC (.int 1))))))) oNil))) <|
  sSeq (with_ahead_l1) <|
  sRet (cMov 2)
noncomputable def with_aheadF : Fn := fnRun 5 2 with_aheadB
noncomputable def add_openB : S :=
  sSeq (sExpr (cFn check_calendarF [] (oCons (oSl 0) oNil))) <|
  sSeq (sExpr (cFn check_dayF [.str "day"] (oCons (oSl 1) oNil))) <|
  sSeq (sExpr (cFn check_countF [] (oCons (oSl 2) oNil))) <|
  sSeq (sAsg (gNm 3) (cBin padd (oTm (cFn open_aheadF [] (oCons (oSl 0) (oCons (oTm (cBin padd (oSl 1) (oTm (cC (.int 1))))) oNil)))) (oSl 2))) <|
  sRet (cFn with_aheadF [] (oCons (oSl 0) (oCons (oSl 3) oNil)))
noncomputable def add_openF : Fn := fnRun 4 3 add_openB
noncomputable def open_betweenB : S :=
  sSeq (sExpr (cFn check_calendarF [] (oCons (oSl 0) oNil))) <|
  sSeq (sExpr (cFn check_dayF [] (oCons (oSl 1) (oCons (oTm (cC (.str "first"))) oNil)))) <|
  sSeq (sExpr (cFn check_dayF [] (oCons (oSl 2) (oCons (oTm (cC (.str "last"))) oNil)))) <|
  sSeq (sIf (mVal (cBin pgt (oSl 1) (oSl 2))) (sNever) (sSkip)) <|
  sRet (cBin psub (oTm (cFn open_aheadF [] (oCons (oSl 0) (oCons (oSl 2) oNil)))) (oTm (cFn open_aheadF [] (oCons (oSl 0) (oCons (oSl 1) oNil)))))
noncomputable def open_betweenF : Fn := fnRun 3 3 open_betweenB
noncomputable def open_onB : S :=
  sRet (cAnd (cBin pnin (oTm (cBin pmod (oSl 1) (oTm (cC (.int 7))))) (oSub (oSl 0) (oTm (cC (.int 0))))) (cBin pnin (oSl 1) (oSub (oSl 0) (oTm (cC (.int 1))))))
noncomputable def open_onF : Fn := fnRun 2 2 open_onB
noncomputable def next_open_l1t : M Bool :=
  mNot (mVal (cFn open_onF [] (oCons (oSl 0) (oCons (oSl 1) oNil))))
noncomputable def next_open_l1b : S :=
  sAug 1 piadd (cC (.int 1))
noncomputable def next_open_l1 : S := sWhile next_open_l1t next_open_l1b
noncomputable def next_openB : S :=
  sSeq (next_open_l1) <|
  sRet (cName 1)
noncomputable def next_openF : Fn := fnRun 2 2 next_openB
noncomputable def last_open_l1t : M Bool :=
  mAnd (mVal (cBin pge (oSl 1) (oTm (cC (.int 0))))) (mNot (mVal (cFn open_onF [] (oCons (oSl 0) (oCons (oSl 1) oNil)))))
noncomputable def last_open_l1b : S :=
  sAug 1 pisub (cC (.int 1))
noncomputable def last_open_l1 : S := sWhile last_open_l1t last_open_l1b
noncomputable def last_openB : S :=
  sSeq (last_open_l1) <|
  sRet (cIf (mVal (cBin pge (oSl 1) (oTm (cC (.int 0))))) (cName 1) (cC .non))
noncomputable def last_openF : Fn := fnRun 2 2 last_openB
noncomputable def moved_toB : S :=
  sSeq (sPar 3 4 (oCons (oTm (cFn next_openF [] (oCons (oSl 0) (oCons (oSl 1) oNil)))) (oCons (oTm (cFn last_openF [] (oCons (oSl 0) (oCons (oSl 1) oNil)))) oNil))) <|
  sSeq (sIf (mOr (mVal (cBin peq (oSl 2) (oTm (cC (.str "following"))))) (mVal (cBin pisN (oSl 4) (oTm (cC .non))))) (sRet (cMov 3)) (sSkip)) <|
  sSeq (sIf (mVal (cBin peq (oSl 2) (oTm (cC (.str "preceding"))))) (sRet (cMov 4)) (sSkip)) <|
  sRet (cIf (mVal (cBin ple (oTm (cBin psub (oSl 3) (oSl 1))) (oTm (cBin psub (oSl 1) (oSl 4))))) (cMov 3) (cMov 4))
noncomputable def moved_toF : Fn := fnRun 5 3 moved_toB
noncomputable def movedB : S :=
  sSeq (sExpr (cFn check_calendarF [] (oCons (oSl 0) oNil))) <|
  sSeq (sExpr (cFn check_dayF [.str "day"] (oCons (oSl 1) oNil))) <|
  sSeq (sIf (mOr (mNot (mVal (cCall pisi (oCons (oSl 2) (oCons (oTm (cC (.ty "str"))) oNil))))) (mVal (cBin pnin (oSl 2) (oTm (cC k_WAYS))))) (sNever) (sSkip)) <|
  sRet (cFn moved_toF [] (oCons (oSl 0) (oCons (oSl 1) (oCons (oSl 2) oNil))))
noncomputable def movedF : Fn := fnRun 3 3 movedB
noncomputable def is_openB : S :=
  sSeq (sExpr (cFn check_calendarF [] (oCons (oSl 0) oNil))) <|
  sSeq (sExpr (cFn check_dayF [.str "day"] (oCons (oSl 1) oNil))) <|
  sRet (cFn open_onF [] (oCons (oSl 0) (oCons (oSl 1) oNil)))
noncomputable def is_openF : Fn := fnRun 2 2 is_openB
noncomputable def take_openB : S :=
  sSeq (sExpr (cFn check_calendarF [] (oCons (oSl 0) oNil))) <|
  sSeq (sExpr (cFn check_dayF [.str "day"] (oCons (oSl 1) oNil))) <|
  sSeq (sExpr (cFn check_countF [] (oCons (oSl 2) oNil))) <|
  sSeq (sAsg (gNm 3) (cBin padd (oTm (cBin psub (oTm (cFn open_aheadF [] (oCons (oSl 0) (oCons (oSl 1) oNil)))) (oSl 2))) (oTm (cC (.int 1))))) <|
  sRet (cIf (mVal (cBin pge (oSl 3) (oTm (cC (.int 1))))) (cFn with_aheadF [] (oCons (oSl 0) (oCons (oSl 3) oNil))) (cC .non))
noncomputable def take_openF : Fn := fnRun 4 3 take_openB
noncomputable def judge_byB : S :=
  sSeq (sExpr (cFn check_calendarF [] (oCons (oSl 0) oNil))) <|
  sSeq (sExpr (cFn check_dayF [] (oCons (oSl 1) (oCons (oTm (cC (.str "begin"))) oNil)))) <|
  sSeq (sExpr (cFn check_countF [] (oCons (oSl 2) oNil))) <|
  sSeq (sExpr (cFn check_dayF [] (oCons (oSl 3) (oCons (oTm (cC (.str "end"))) oNil)))) <|
  sSeq (sAsg (gNm 4) (cFn with_aheadF [] (oCons (oSl 0) (oCons (oTm (cBin padd (oTm (cFn open_aheadF [] (oCons (oSl 0) (oCons (oTm (cBin padd (oSl 1) (oTm (cC (.int 1))))) oNil)))) (oSl 2))) oNil)))) <|
  sSeq (sIf (mVal (cBin pgt (oSl 4) (oSl 3))) (sRet (cTup (oCons (oTm (cC (.str "late"))) (oCons (oTm (cName 4)) oNil)))) (sSkip)) <|
  sRet (cTup (oCons (oTm (cC (.str "by"))) (oCons (oTm (cBin psub (oTm (cFn open_aheadF [] (oCons (oSl 0) (oCons (oTm (cBin padd (oSl 3) (oTm (cC (.int 1))))) oNil)))) (oTm (cFn open_aheadF [] (oCons (oSl 0) (oCons (oTm (cBin padd (oSl 4) (oTm (cC (.int 1))))) oNil)))))) oNil)))
noncomputable def judge_byF : Fn := fnRun 5 4 judge_byB
noncomputable def _law_openB : S :=
  sRet (cAnd (cBin pnin (oTm (cBin pmod (oTm (cCall pint (oCons (oSl 1) oNil))) (oTm (cC (.int 7))))) (oSub (oSl 0) (oTm (cC (.int 0))))) (cBin pnin (oSl 1) (oSub (oSl 0) (oTm (cC (.int 1))))))
noncomputable def _law_openF : Fn := fnRun 2 2 _law_openB
noncomputable def accept_late_c1 : M PV :=
  cComp [5] (iVal (cName 4)) (gNm 5) (mYes) (cAnd (cFn is_integerF [] (oCons (oSl 5) oNil)) (cChain ple ple (oTm (cC (.int 0))) (oSl 5) (oTm (cC k_MAX_TIME))))
noncomputable def accept_late_c2 : M PV :=
  cComp [5] (iVal (cName 4)) (gNm 5) (mYes) (cChain plt ple (oSl 1) (oSl 5) (oSl 3))
noncomputable def accept_late_c3 : M PV :=
  cComp [5] (iVal (cName 4)) (gNm 5) (mYes) (cFn open_onF [] (oCons (oSl 0) (oCons (oSl 5) oNil)))
noncomputable def accept_lateB : S :=
  sSeq (sExpr (cFn check_calendarF [] (oCons (oSl 0) oNil))) <|
  sSeq (sExpr (cFn check_dayF [] (oCons (oSl 1) (oCons (oTm (cC (.str "begin"))) oNil)))) <|
  sSeq (sExpr (cFn check_countF [] (oCons (oSl 2) oNil))) <|
  sSeq (sExpr (cFn check_dayF [] (oCons (oSl 3) (oCons (oTm (cC (.str "end"))) oNil)))) <|
  sSeq (sIf (mOr (mNot (mVal (cCall pisi (oCons (oSl 4) (oCons (oTm (cC (.ty "tuple"))) oNil))))) (mNot (mVal (cCall pall (oCons (oTm (accept_late_c1)) oNil))))) (sNever) (sSkip)) <|
  sSeq (sIf (mNot (mVal (cFn risingF [] (oCons (oSl 4) oNil)))) (sNever) (sSkip)) <|
  sSeq (sIf (mNot (mVal (cCall pall (oCons (oTm (accept_late_c2)) oNil)))) (sNever) (sSkip)) <|
  sSeq (sIf (mVal (cCall pany (oCons (oTm (accept_late_c3)) oNil))) (sNever) (sSkip)) <|
  sIf (mVal (cBin pge (oTm (cBin psub (oTm (cCall pmax (oCons (oTm (cC (.int 0))) (oCons (oTm (cBin psub (oSl 3) (oSl 1))) oNil)))) (oTm (cCall plen (oCons (oSl 4) oNil))))) (oSl 2))) (sNever) (sSkip)
noncomputable def accept_lateF : Fn := fnRun 6 5 accept_lateB
noncomputable def accept_by_c1 : M PV :=
  cComp [5] (iVal (cName 4)) (gNm 5) (mYes) (cAnd (cFn is_integerF [] (oCons (oSl 5) oNil)) (cChain ple ple (oTm (cC (.int 0))) (oSl 5) (oTm (cC k_MAX_TIME))))
noncomputable def accept_by_c2 : M PV :=
  cComp [5] (iVal (cName 4)) (gNm 5) (mYes) (cChain plt ple (oSl 1) (oSl 5) (oSl 3))
noncomputable def accept_by_c3 : M PV :=
  cComp [5] (iVal (cName 4)) (gNm 5) (mYes) (cFn open_onF [] (oCons (oSl 0) (oCons (oSl 5) oNil)))
noncomputable def accept_byB : S :=
  sSeq (sExpr (cFn check_calendarF [] (oCons (oSl 0) oNil))) <|
  sSeq (sExpr (cFn check_dayF [] (oCons (oSl 1) (oCons (oTm (cC (.str "begin"))) oNil)))) <|
  sSeq (sExpr (cFn check_countF [] (oCons (oSl 2) oNil))) <|
  sSeq (sExpr (cFn check_dayF [] (oCons (oSl 3) (oCons (oTm (cC (.str "end"))) oNil)))) <|
  sSeq (sIf (mOr (mNot (mVal (cCall pisi (oCons (oSl 4) (oCons (oTm (cC (.ty "tuple"))) oNil))))) (mNot (mVal (cCall pall (oCons (oTm (accept_by_c1)) oNil))))) (sNever) (sSkip)) <|
  sSeq (sIf (mNot (mVal (cFn risingF [] (oCons (oSl 4) oNil)))) (sNever) (sSkip)) <|
  sSeq (sIf (mNot (mVal (cCall pall (oCons (oTm (accept_by_c2)) oNil)))) (sNever) (sSkip)) <|
  sSeq (sIf (mNot (mVal (cCall pall (oCons (oTm (accept_by_c3)) oNil)))) (sNever) (sSkip)) <|
  sIf (mVal (cBin plt (oTm (cCall plen (oCons (oSl 4) oNil))) (oSl 2))) (sNever) (sSkip)
noncomputable def accept_byF : Fn := fnRun 6 5 accept_byB
noncomputable def _law_next_l1t : M Bool :=
  mVal (cBin pgt (oSl 2) (oTm (cC (.int 0))))
noncomputable def _law_next_l1b : S :=
  sSeq (sAsg (gNm 1) (cBin padd (oSl 1) (oTm (cC (.int 1))))) <|
  sAsg (gNm 2) (cBin psub (oSl 2) (oTm (cCall pint (oCons (oTm (cFn _law_openF [] (oCons (oSl 0) (oCons (oSl 1) oNil)))) oNil))))
noncomputable def _law_next_l1 : S := sWhile _law_next_l1t _law_next_l1b
noncomputable def _law_nextB : S :=
  sSeq (_law_next_l1) <|
  sRet (cName 1)
noncomputable def _law_nextF : Fn := fnRun 3 3 _law_nextB
noncomputable def _law_by_holds_c1 : M PV :=
  cComp [8] (iCall rng2 (oCons (oTm (cBin padd (oSl 2) (oTm (cC (.int 1))))) (oCons (oTm (cBin padd (oSl 4) (oTm (cC (.int 1))))) oNil))) (gNm 8) (mVal (cFn _law_openF [] (oCons (oSl 1) (oCons (oSl 8) oNil)))) (cName 8)
noncomputable def _law_by_holds_c2 : M PV :=
  cComp [8] (iCall rng2 (oCons (oTm (cBin padd (oSl 2) (oTm (cC (.int 1))))) (oCons (oTm (cBin padd (oSl 4) (oTm (cC (.int 1))))) oNil))) (gNm 8) (mVal (cBin pnin (oSl 8) (oSl 5))) (cName 8)
noncomputable def _law_by_holdsB : S :=
  sSeq (sPar 3 4 (oCons (oTm (cBin padd (oTm (cC (.int 1))) (oTm (cFn _law_drawF [] (oCons (oSl 0) (oCons (oTm (cFn _law_pickF [] (oCons (oSl 0) (oCons (oTm (cLst (oCons (oTm (cC (.int 3))) (oCons (oTm (cC (.int 12))) oNil)))) oNil)))) oNil)))))) (oCons (oTm (cFn _law_pickF [] (oCons (oSl 0) (oCons (oTm (cLst (oCons (oTm (cBin padd (oSl 2) (oTm (cFn _law_drawF [] (oCons (oSl 0) (oCons (oTm (cC (.int 40))) oNil)))))) (oCons (oTm (cFn _law_drawF [] (oCons (oSl 0) (oCons (oTm (cC (.int 60))) oNil)))) oNil)))) oNil)))) oNil))) <|
  sSeq (sAsg (gNm 5) (_law_by_holds_c1)) <|
  sSeq (sAsg (gNm 6) (cFn judge_byF [] (oCons (oSl 1) (oCons (oSl 2) (oCons (oSl 3) (oCons (oSl 4) oNil)))))) <|
  sSeq (sIf (mVal (cBin pge (oTm (cCall plen (oCons (oSl 5) oNil))) (oSl 3))) (sSeq (sIf (mOr (mVal (cBin pnotN (oTm (cFn accept_byF [] (oCons (oSl 1) (oCons (oSl 2) (oCons (oSl 3) (oCons (oSl 4) (oCons (oTm (cCall ptuple (oCons (oSl 5) oNil))) oNil))))))) (oTm (cC .non)))) (mVal (cBin pnotN (oTm (cFn accept_byF [] (oCons (oSl 1) (oCons (oSl 2) (oCons (oSl 3) (oCons (oSl 4) (oCons (oTm (cCall ptuple (oCons (oTm (cSl (oSl 5) (mNo) (mSome (cName 3)))) oNil))) oNil))))))) (oTm (cC .non))))) (sRet (cC (.bl false))) (sSkip)) <|
  sRet (cFn _law_sameF [] (oCons (oSl 6) (oCons (oTm (cTup (oCons (oTm (cC (.str "by"))) (oCons (oTm (cBin psub (oTm (cCall plen (oCons (oSl 5) oNil))) (oSl 3))) oNil)))) oNil)))) (sSkip)) <|
  sSeq (sAsg (gNm 7) (cCall ptuple (oCons (oTm (_law_by_holds_c2)) oNil))) <|
  sRet (cAnd (cFn _law_sameF [] (oCons (oSl 6) (oCons (oTm (cTup (oCons (oTm (cC (.str "late"))) (oCons (oTm (cFn _law_nextF [] (oCons (oSl 1) (oCons (oSl 2) (oCons (oSl 3) oNil))))) oNil)))) oNil))) (cBin pisN (oTm (cFn accept_lateF [] (oCons (oSl 1) (oCons (oSl 2) (oCons (oSl 3) (oCons (oSl 4) (oCons (oSl 7) oNil))))))) (oTm (cC .non))))
noncomputable def _law_by_holdsF : Fn := fnRun 9 3 _law_by_holdsB
noncomputable def same_days_c1 : M PV :=
  cComp [2] (iVal (cBin padd (oSub (oSl 0) (oTm (cC (.int 1)))) (oSub (oSl 1) (oTm (cC (.int 1)))))) (gNm 2) (mYes) (cBin peq (oTm (cFn open_onF [] (oCons (oSl 0) (oCons (oSl 2) oNil)))) (oTm (cFn open_onF [] (oCons (oSl 1) (oCons (oSl 2) oNil)))))
noncomputable def same_daysB : S :=
  sSeq (sExpr (cFn check_calendarF [] (oCons (oSl 0) oNil))) <|
  sSeq (sExpr (cFn check_calendarF [] (oCons (oSl 1) oNil))) <|
  sSeq (sIf (mVal (cBin pne (oSub (oSl 0) (oTm (cC (.int 0)))) (oSub (oSl 1) (oTm (cC (.int 0)))))) (sRet (cC (.bl false))) (sSkip)) <|
  sRet (cCall pall (oCons (oTm (same_days_c1)) oNil))
noncomputable def same_daysF : Fn := fnRun 3 2 same_daysB
noncomputable def longest_rest_l1b : S :=
  sIf (mVal (cFn open_onF [] (oCons (oSl 0) (oCons (oSl 5) oNil)))) (sAsg (gNm 4) (cC .non)) (sSeq (sAsg (gNm 4) (cIf (mVal (cBin pisN (oSl 4) (oTm (cC .non)))) (cName 5) (cName 4))) <|
  sIf (mOr (mVal (cBin pisN (oSl 3) (oTm (cC .non)))) (mVal (cBin pgt (oTm (cBin padd (oTm (cBin psub (oSl 5) (oSl 4))) (oTm (cC (.int 1))))) (oSub (oSl 3) (oTm (cC (.int 1))))))) (sAsg (gNm 3) (cTup (oCons (oTm (cName 4)) (oCons (oTm (cBin padd (oTm (cBin psub (oSl 5) (oSl 4))) (oTm (cC (.int 1))))) oNil)))) (sSkip))
noncomputable def longest_rest_l1 : S := sFor (iCall rng2 (oCons (oSl 1) (oCons (oTm (cBin padd (oSl 2) (oTm (cC (.int 1))))) oNil))) (gNm 5) longest_rest_l1b
noncomputable def longest_restB : S :=
  sSeq (sExpr (cFn check_calendarF [] (oCons (oSl 0) oNil))) <|
  sSeq (sExpr (cFn check_dayF [] (oCons (oSl 1) (oCons (oTm (cC (.str "first"))) oNil)))) <|
  sSeq (sExpr (cFn check_dayF [] (oCons (oSl 2) (oCons (oTm (cC (.str "last"))) oNil)))) <|
  sSeq (sIf (mOr (mVal (cBin pgt (oSl 1) (oSl 2))) (mVal (cBin pgt (oTm (cBin psub (oSl 2) (oSl 1))) (oTm (cBin pmul (oTm (cC (.int 40))) (oTm (cC k_MAX_ROWS))))))) (sNever) (sSkip)) <|
  sSeq (sAsg (gNm 3) (cC .non)) <|
  sSeq (sAsg (gNm 4) (cC .non)) <|
  sSeq (longest_rest_l1) <|
  sRet (cMov 3)
noncomputable def longest_restF : Fn := fnRun 6 3 longest_restB
noncomputable def _law_rest_l1b : S :=
  sSeq (sAsg (gNm 4) (cIf (mVal (cFn _law_openF [] (oCons (oSl 0) (oCons (oSl 5) oNil)))) (cC (.int 0)) (cBin padd (oSl 4) (oTm (cC (.int 1)))))) <|
  sIf (mAnd (mVal (cBin pgt (oSl 4) (oTm (cC (.int 0))))) (mOr (mVal (cBin pisN (oSl 3) (oTm (cC .non)))) (mVal (cBin pgt (oSl 4) (oSub (oSl 3) (oTm (cC (.int 1)))))))) (sAsg (gNm 3) (cTup (oCons (oTm (cBin padd (oTm (cBin psub (oSl 5) (oSl 4))) (oTm (cC (.int 1))))) (oCons (oTm (cName 4)) oNil)))) (sSkip)
noncomputable def _law_rest_l1 : S := sFor (iCall rng2 (oCons (oSl 1) (oCons (oTm (cBin padd (oSl 2) (oTm (cC (.int 1))))) oNil))) (gNm 5) _law_rest_l1b
noncomputable def _law_restB : S :=
  sSeq (sAsg (gTp 2 (gsCons (gNm 3) (gsCons (gNm 4) (gsNil)))) (cTup (oCons (oTm (cC .non)) (oCons (oTm (cC (.int 0))) oNil)))) <|
  sSeq (_law_rest_l1) <|
  sRet (cMov 3)
noncomputable def _law_restF : Fn := fnRun 6 3 _law_restB
noncomputable def _law_last_l1t : M Bool :=
  mAnd (mVal (cBin pgt (oSl 2) (oTm (cC (.int 0))))) (mVal (cBin pgt (oSl 1) (oTm (cC (.int 0)))))
noncomputable def _law_last_l1b : S :=
  sSeq (sAsg (gNm 1) (cBin psub (oSl 1) (oTm (cC (.int 1))))) <|
  sAsg (gNm 2) (cBin psub (oSl 2) (oTm (cCall pint (oCons (oTm (cFn _law_openF [] (oCons (oSl 0) (oCons (oSl 1) oNil)))) oNil))))
noncomputable def _law_last_l1 : S := sWhile _law_last_l1t _law_last_l1b
noncomputable def _law_lastB : S :=
  sSeq (_law_last_l1) <|
  sRet (cIf (mVal (cBin peq (oSl 2) (oTm (cC (.int 0))))) (cName 1) (cC .non))
noncomputable def _law_lastF : Fn := fnRun 3 3 _law_lastB
noncomputable def _law_movedB : S :=
  sSeq (sIf (mVal (cFn _law_openF [] (oCons (oSl 0) (oCons (oSl 1) oNil)))) (sRet (cName 1)) (sSkip)) <|
  sSeq (sPar 3 4 (oCons (oTm (cFn _law_nextF [] (oCons (oSl 0) (oCons (oSl 1) (oCons (oTm (cC (.int 1))) oNil))))) (oCons (oTm (cFn _law_lastF [] (oCons (oSl 0) (oCons (oSl 1) (oCons (oTm (cC (.int 1))) oNil))))) oNil))) <|
  sSeq (sIf (mOr (mVal (cBin peq (oSl 2) (oTm (cC (.str "following"))))) (mVal (cBin pisN (oSl 4) (oTm (cC .non))))) (sRet (cMov 3)) (sSkip)) <|
  sRet (cIf (mOr (mVal (cBin peq (oSl 2) (oTm (cC (.str "preceding"))))) (mVal (cBin plt (oTm (cBin psub (oSl 1) (oSl 4))) (oTm (cBin psub (oSl 3) (oSl 1)))))) (cMov 4) (cMov 3))
noncomputable def _law_movedF : Fn := fnRun 5 3 _law_movedB
noncomputable def due_days_c1 : M PV :=
  cComp [5] (iCall rng1 (oCons (oSl 3) oNil)) (gNm 5) (mYes) (cFn moved_toF [] (oCons (oSl 0) (oCons (oTm (cBin padd (oSl 1) (oTm (cBin pmul (oSl 2) (oSl 5))))) (oCons (oSl 4) oNil))))
noncomputable def due_daysB : S :=
  sSeq (sExpr (cFn check_calendarF [] (oCons (oSl 0) oNil))) <|
  sSeq (sExpr (cFn check_dayF [] (oCons (oSl 1) (oCons (oTm (cC (.str "first"))) oNil)))) <|
  sSeq (sIf (mOr (mNot (mVal (cFn is_integerF [] (oCons (oSl 2) oNil)))) (mNot (mVal (cChain ple ple (oTm (cC (.int 1))) (oSl 2) (oTm (cC k_MAX_TIME)))))) (sNever) (sSkip)) <|
  sSeq (sIf (mOr (mNot (mVal (cFn is_integerF [] (oCons (oSl 3) oNil)))) (mNot (mVal (cChain ple ple (oTm (cC (.int 0))) (oSl 3) (oTm (cC k_MAX_ROWS)))))) (sNever) (sSkip)) <|
  sSeq (sIf (mOr (mNot (mVal (cCall pisi (oCons (oSl 4) (oCons (oTm (cC (.ty "str"))) oNil))))) (mVal (cBin pnin (oSl 4) (oTm (cC k_WAYS))))) (sNever) (sSkip)) <|
  sRet (cCall ptuple (oCons (oTm (due_days_c1)) oNil))
noncomputable def due_daysF : Fn := fnRun 6 5 due_daysB
noncomputable def law_c1 : M PV :=
  cComp [16] (iCall rng2 (oCons (oSl 8) (oCons (oSl 11) oNil))) (gNm 16) (mVal (cFn _law_openF [] (oCons (oSl 4) (oCons (oSl 16) oNil)))) (cName 16)
noncomputable def law_c2 : M PV :=
  cComp [15] (iCall rng1 (oCons (oTm (cBin pmod (oTm (cCall pint (oCons (oSl 9) oNil))) (oTm (cC (.int 7))))) oNil)) (gNm 15) (mYes) (cFn _law_movedF [] (oCons (oSl 4) (oCons (oTm (cBin padd (oSl 8) (oTm (cBin pmul (oSl 12) (oSl 15))))) (oCons (oSl 13) oNil))))
noncomputable def law_l1b : S :=
  sSeq (sAsg (gTp 2 (gsCons (gNm 8) (gsCons (gNm 9) (gsNil)))) (cTup (oCons (oTm (cFn _law_drawF [] (oCons (oSl 1) (oCons (oTm (cFn _law_pickF [] (oCons (oSl 1) (oCons (oTm (cLst (oCons (oTm (cC (.int 9))) (oCons (oTm (cC (.int 50))) (oCons (oTm (cC (.int 130))) oNil))))) oNil)))) oNil)))) (oCons (oTm (cBin padd (oTm (cC (.int 1))) (oTm (cFn _law_drawF [] (oCons (oSl 1) (oCons (oTm (cFn _law_pickF [] (oCons (oSl 1) (oCons (oTm (cLst (oCons (oTm (cC (.int 2))) (oCons (oTm (cC (.int 9))) (oCons (oTm (cC (.int 30))) oNil))))) oNil)))) oNil)))))) oNil)))) <|
  sSeq (sAsg (gNm 10) (cLst (oCons (oTm (cFn is_openF [] (oCons (oSl 4) (oCons (oSl 8) oNil)))) (oCons (oTm (cFn add_openF [] (oCons (oSl 4) (oCons (oSl 8) (oCons (oSl 9) oNil))))) (oCons (oTm (cFn take_openF [] (oCons (oSl 4) (oCons (oSl 8) (oCons (oSl 9) oNil))))) oNil))))) <|
  sSeq (sIf (mNot (mVal (cFn _law_sameF [] (oCons (oSl 10) (oCons (oTm (cLst (oCons (oTm (cFn _law_openF [] (oCons (oSl 4) (oCons (oSl 8) oNil)))) (oCons (oTm (cFn _law_nextF [] (oCons (oSl 4) (oCons (oSl 8) (oCons (oSl 9) oNil))))) (oCons (oTm (cFn _law_lastF [] (oCons (oSl 4) (oCons (oSl 8) (oCons (oSl 9) oNil))))) oNil))))) oNil))))) (sRet (cC (.bl false))) (sSkip)) <|
  sSeq (sAsg (gNm 11) (cBin padd (oSl 8) (oTm (cFn _law_drawF [] (oCons (oSl 1) (oCons (oTm (cFn _law_pickF [] (oCons (oSl 1) (oCons (oTm (cLst (oCons (oTm (cC (.int 1))) (oCons (oTm (cC (.int 9))) (oCons (oTm (cC (.int 60))) oNil))))) oNil)))) oNil)))))) <|
  sSeq (sIf (mNot (mVal (cFn _law_sameF [] (oCons (oTm (cFn open_betweenF [] (oCons (oSl 4) (oCons (oSl 8) (oCons (oSl 11) oNil))))) (oCons (oTm (cCall plen (oCons (oTm (law_c1)) oNil))) oNil))))) (sRet (cC (.bl false))) (sSkip)) <|
  sSeq (sIf (mNot (mVal (cFn _law_sameF [] (oCons (oTm (cFn longest_restF [] (oCons (oSl 4) (oCons (oSl 8) (oCons (oSl 11) oNil))))) (oCons (oTm (cFn _law_restF [] (oCons (oSl 4) (oCons (oSl 8) (oCons (oSl 11) oNil))))) oNil))))) (sRet (cC (.bl false))) (sSkip)) <|
  sSeq (sAsg (gTp 2 (gsCons (gNm 12) (gsCons (gNm 13) (gsNil)))) (cTup (oCons (oTm (cBin padd (oTm (cC (.int 1))) (oTm (cFn _law_drawF [] (oCons (oSl 1) (oCons (oTm (cFn _law_pickF [] (oCons (oSl 1) (oCons (oTm (cLst (oCons (oTm (cC (.int 3))) (oCons (oTm (cC (.int 12))) oNil)))) oNil)))) oNil)))))) (oCons (oTm (cFn _law_pickF [] (oCons (oSl 1) (oCons (oTm (cLst (oCons (oTm (cC (.str "following"))) (oCons (oTm (cC (.str "preceding"))) (oCons (oTm (cC (.str "nearest"))) oNil))))) oNil)))) oNil)))) <|
  sSeq (sAsg (gNm 14) (cCall ptuple (oCons (oTm (law_c2)) oNil))) <|
  sSeq (sIf (mNot (mVal (cFn _law_sameF [] (oCons (oTm (cLst (oCons (oTm (cFn movedF [] (oCons (oSl 4) (oCons (oSl 8) (oCons (oSl 13) oNil))))) (oCons (oTm (cFn due_daysF [] (oCons (oSl 4) (oCons (oSl 8) (oCons (oSl 12) (oCons (oTm (cCall plen (oCons (oSl 14) oNil))) (oCons (oSl 13) oNil))))))) oNil)))) (oCons (oTm (cLst (oCons (oTm (cFn _law_movedF [] (oCons (oSl 4) (oCons (oSl 8) (oCons (oSl 13) oNil))))) (oCons (oTm (cName 14)) oNil)))) oNil))))) (sRet (cC (.bl false))) (sSkip)) <|
  sIf (mNot (mVal (cFn _law_by_holdsF [] (oCons (oSl 1) (oCons (oSl 4) (oCons (oSl 8) oNil)))))) (sRet (cC (.bl false))) (sSkip)
noncomputable def law_l1 : S := sFor (iCall rng1 (oCons (oTm (cC (.int 4))) oNil)) (gNm 5) law_l1b
noncomputable def law_c3 : M PV :=
  cComp [8] (iCall rng1 (oCons (oTm (cC (.int 140))) oNil)) (gNm 8) (mVal (cBin pne (oTm (cFn _law_openF [] (oCons (oSl 4) (oCons (oSl 8) oNil)))) (oTm (cFn _law_openF [] (oCons (oSl 6) (oCons (oSl 8) oNil)))))) (cName 8)
noncomputable def law_c4 : M PV :=
  cComp [8] (iCall rng2 (oCons (oTm (cC (.int 99990))) (oCons (oTm (cC (.int 100001))) oNil))) (gNm 8) (mVal (cBin pne (oTm (cFn _law_openF [] (oCons (oSl 4) (oCons (oSl 8) oNil)))) (oTm (cFn _law_openF [] (oCons (oSl 6) (oCons (oSl 8) oNil)))))) (cName 8)
noncomputable def law_l2b : S :=
  sSeq (sAsg (gNm 4) (cFn _law_calendarF [] (oCons (oSl 1) oNil))) <|
  sSeq (law_l1) <|
  sSeq (sAsg (gNm 6) (cFn _law_otherF [] (oCons (oSl 1) (oCons (oSl 4) oNil)))) <|
  sSeq (sAsg (gNm 7) (law_c3)) <|
  sSeq (sAsg (gNm 7) (cBin padd (oSl 7) (oTm (law_c4)))) <|
  sIf (mNot (mVal (cFn _law_sameF [] (oCons (oTm (cFn same_daysF [] (oCons (oSl 4) (oCons (oSl 6) oNil)))) (oCons (oTm (cBin peq (oSl 7) (oTm (cLst (oNil))))) oNil))))) (sRet (cC (.bl false))) (sSkip)
noncomputable def law_l2 : S := sFor (iCall rng1 (oCons (oTm (cC (.int 4))) oNil)) (gNm 2) law_l2b
noncomputable def lawB : S :=
  sSeq (sAsg (gNm 1) (cFn _law_startF [] (oCons (oSl 0) oNil))) <|
  sSeq (law_l2) <|
  sSeq (sAsg (gNm 3) (cTup (oCons (oTm (cTup (oCons (oTm (cC (.int 5))) (oCons (oTm (cC (.int 6))) oNil)))) (oCons (oTm (cTup (oNil))) oNil)))) <|
  sRet (cFn _law_sameF [] (oCons (oTm (cLst (oCons (oTm (cFn add_openF [] (oCons (oSl 3) (oCons (oTm (cC (.int 0))) (oCons (oTm (cC (.int 100000))) oNil))))) (oCons (oTm (cFn open_betweenF [] (oCons (oSl 3) (oCons (oTm (cC (.int 0))) (oCons (oTm (cC (.int 100000))) oNil))))) (oCons (oTm (cFn movedF [] (oCons (oTm (cTup (oCons (oTm (cTup (oNil))) (oCons (oTm (cTup (oCons (oTm (cC (.int 100000))) oNil))) oNil)))) (oCons (oTm (cC (.int 100000))) (oCons (oTm (cC (.str "following"))) oNil))))) oNil))))) (oCons (oTm (cLst (oCons (oTm (cC (.int 140000))) (oCons (oTm (cC (.int 71430))) (oCons (oTm (cC (.int 100001))) oNil))))) oNil)))
noncomputable def lawF : Fn := fnRun 17 1 lawB
/-- what the module's names hold -/
structure Tab (K : PySem.W.Frag) (mg : Str → Option Value) (ad : Nat → Addr) (fd : Nat → FuncData) : Prop where
  f__law_start : Fk K mg "_law_start" s__law_start ["script"] (ad 0) (fd 0)
  f__law_same : Fk K mg "_law_same" s__law_same ["actual", "due"] (ad 1) (fd 1)
  f__law_draw : Fk K mg "_law_draw" s__law_draw ["state", "many"] (ad 2) (fd 2)
  f__law_rising : Fk K mg "_law_rising" s__law_rising ["state", "most", "many"] (ad 3) (fd 3)
  f__law_pick : Fk K mg "_law_pick" s__law_pick ["state", "some"] (ad 4) (fd 4)
  f__law_calendar : Fk K mg "_law_calendar" s__law_calendar ["state"] (ad 5) (fd 5)
  f__law_other : Fk K mg "_law_other" s__law_other ["state", "calendar"] (ad 6) (fd 6)
  f_rising : Fk K mg "rising" s_rising ["row"] (ad 7) (fd 7)
  f_is_integer : Fk K mg "is_integer" s_is_integer ["value"] (ad 8) (fd 8)
  f_check_calendar : Fk K mg "check_calendar" s_check_calendar ["calendar"] (ad 9) (fd 9)
  f_check_day : FkD K mg "check_day" s_check_day ["day", "reason"] (.str "day") (ad 10) (fd 10)
  f_check_count : Fk K mg "check_count" s_check_count ["count"] (ad 11) (fd 11)
  f_open_ahead : Fk K mg "open_ahead" s_open_ahead ["calendar", "day"] (ad 12) (fd 12)
  f_with_ahead : Fk K mg "with_ahead" s_with_ahead ["calendar", "goal"] (ad 13) (fd 13)
  f_add_open : Fk K mg "add_open" s_add_open ["calendar", "day", "count"] (ad 14) (fd 14)
  f_open_between : Fk K mg "open_between" s_open_between ["calendar", "first", "last"] (ad 15) (fd 15)
  f_open_on : Fk K mg "open_on" s_open_on ["calendar", "day"] (ad 16) (fd 16)
  f_next_open : Fk K mg "next_open" s_next_open ["calendar", "day"] (ad 17) (fd 17)
  f_last_open : Fk K mg "last_open" s_last_open ["calendar", "day"] (ad 18) (fd 18)
  f_moved_to : Fk K mg "moved_to" s_moved_to ["calendar", "day", "way"] (ad 19) (fd 19)
  f_moved : Fk K mg "moved" s_moved ["calendar", "day", "way"] (ad 20) (fd 20)
  f_is_open : Fk K mg "is_open" s_is_open ["calendar", "day"] (ad 21) (fd 21)
  f_take_open : Fk K mg "take_open" s_take_open ["calendar", "day", "count"] (ad 22) (fd 22)
  f_judge_by : Fk K mg "judge_by" s_judge_by ["calendar", "begin", "count", "end"] (ad 23) (fd 23)
  f__law_open : Fk K mg "_law_open" s__law_open ["calendar", "day"] (ad 24) (fd 24)
  f_accept_late : Fk K mg "accept_late" s_accept_late ["calendar", "begin", "count", "end", "days"] (ad 25) (fd 25)
  f_accept_by : Fk K mg "accept_by" s_accept_by ["calendar", "begin", "count", "end", "days"] (ad 26) (fd 26)
  f__law_next : Fk K mg "_law_next" s__law_next ["calendar", "day", "many"] (ad 27) (fd 27)
  f__law_by_holds : Fk K mg "_law_by_holds" s__law_by_holds ["state", "calendar", "day"] (ad 28) (fd 28)
  f_same_days : Fk K mg "same_days" s_same_days ["first", "second"] (ad 29) (fd 29)
  f_longest_rest : Fk K mg "longest_rest" s_longest_rest ["calendar", "first", "last"] (ad 30) (fd 30)
  f__law_rest : Fk K mg "_law_rest" s__law_rest ["calendar", "first", "last"] (ad 31) (fd 31)
  f__law_last : Fk K mg "_law_last" s__law_last ["calendar", "day", "many"] (ad 32) (fd 32)
  f__law_moved : Fk K mg "_law_moved" s__law_moved ["calendar", "day", "way"] (ad 33) (fd 33)
  f_due_days : Fk K mg "due_days" s_due_days ["calendar", "first", "step", "count", "way"] (ad 34) (fd 34)
  f_law : Fk K mg "law" s_law ["script"] (ad 35) (fd 35)
  c_MAX_ROWS : Ck K mg "MAX_ROWS" k_MAX_ROWS
  c_MAX_TIME : Ck K mg "MAX_TIME" k_MAX_TIME
  c_WAYS : Ck K mg "WAYS" k_WAYS
  n_int : mg "int" = none
  n_list : mg "list" = none
  n_repr : mg "repr" = none
  n_len : mg "len" = none
  n_abs : mg "abs" = none
  n_tuple : mg "tuple" = none
  n_sorted : mg "sorted" = none
  n_set : mg "set" = none
  n_range : mg "range" = none
  n_all : mg "all" = none
  n_isinstance : mg "isinstance" = none
  n_bool : mg "bool" = none
  n_str : mg "str" = none
  n_any : mg "any" = none
  n_max : mg "max" = none
variable {Pr : Program} {w : World} {base : Heap} {K : PySem.W.Frag} {mg : Str → Option Value} {ad : Nat → Addr} {fd : Nat → FuncData}
theorem ok__law_start (T : Tab K mg ad fd) : GOk Pr w K mg base CX0 1 (ad 0) (fd 0) ["script"] (spG K mg 1 _law_startF) :=
  fn_ok (k := 0) (N := ["script", "seed", "cell"]) (ps := ["script"]) (b := _law_startB) T.f__law_start.f sc__law_start (by decide) fun cdv A outer s H E P hr hgd =>
    have hu1 := room_u hr 1 (by decide); have hu64 := room_u hr 64 (by decide); have hu65 := room_u hr 65 (by decide); have hu66 := room_u hr 66 (by decide)
    gs_cons (g_set (i := 1) sc__law_start.nd rfl (.inl rfl) (ge_int)) <|
    gs_cons (g_for PassesOwn.never rfl (gi_list rfl (ge_name (pv 0))) (gg_name sc__law_start.nd rfl (by first | exact .inl rfl | exact .inr rfl)) (gs_one (g_set (i := 1) sc__law_start.nd rfl (.inl rfl) (ge_bin (or_add rfl) (go_tm (ge_bin (or_mod) (go_tm (ge_callTy (cr_int) T.n_int bb_int (by rfl) (ga_one (go_tm (ge_bin (or_add rfl) (go_tm (ge_bin (or_mul rfl) (go_sl (pv 1)) (go_tm (ge_int)))) (go_sl (pv 2))))))) (go_tm (ge_int)))) (go_tm (ge_int)))))) <|
    gs_one (g_ret (ge_lst (ga_cons (go_tm (ge_callTy (cr_list rfl) T.n_list bb_list (by rfl) (ga_one (go_sl (pv 0))))) (ga_cons (go_tm (ge_int)) (ga_cons (go_tm (ge_int)) (ga_one (go_tm (ge_name (pv 1)))))))))
theorem ok__law_same (T : Tab K mg ad fd) : GOk Pr w K mg base CX0 1 (ad 1) (fd 1) ["actual", "due"] (spG K mg 2 _law_sameF) :=
  fn_ok (k := 0) (N := ["actual", "due"]) (ps := ["actual", "due"]) (b := _law_sameB) T.f__law_same.f sc__law_same (by decide) fun cdv A outer s H E P hr hgd =>
    have hu1 := room_u hr 1 (by decide); have hu64 := room_u hr 64 (by decide); have hu65 := room_u hr 65 (by decide); have hu66 := room_u hr 66 (by decide)
    gs_one (g_ret (ge_and (ge_cmp (or_eq rfl hu64) (go_sl (pv 0)) (go_sl (pv 1)) (by rfl)) (ge_one (ge_cmp (or_eq rfl hu64) (go_tm (ge_callB (cr_repr rfl hgd hu66) T.n_repr bb_repr (by rfl) (ga_one (go_sl (pv 0))))) (go_tm (ge_callB (cr_repr rfl hgd hu66) T.n_repr bb_repr (by rfl) (ga_one (go_sl (pv 1))))) (by rfl)))))
theorem ok__law_draw (T : Tab K mg ad fd) : GOk Pr w K mg base CX0 1 (ad 2) (fd 2) ["state", "many"] (spG K mg 2 _law_drawF) :=
  fn_ok (k := 0) (N := ["state", "many", "value"]) (ps := ["state", "many"]) (b := _law_drawB) T.f__law_draw.f sc__law_draw (by decide) fun cdv A outer s H E P hr hgd =>
    have hu1 := room_u hr 1 (by decide); have hu64 := room_u hr 64 (by decide); have hu65 := room_u hr 65 (by decide); have hu66 := room_u hr 66 (by decide)
    gs_cons (g_if (gt_rd (PW.pt (gw_and (gt_cmp (or_eq rfl hu64) (go_sub rfl hu1 (go_sl (pv 0)) (go_tm (ge_int))) (go_tm (ge_int)) (by rfl)) (gw_and1 (gt_cmp (or_ge) (go_sub rfl hu1 (go_sl (pv 0)) (go_tm (ge_int))) (go_tm (ge_callB (cr_len rfl) T.n_len bb_len (by rfl) (ga_one (go_sub rfl hu1 (go_sl (pv 0)) (go_tm (ge_int)))))) (by rfl)))))) (gs_cons (g_asg (ge_rd (ge_bin (or_mod) (go_tm (ge_callTy (cr_int) T.n_int bb_int (by rfl) (ga_one (go_tm (ge_bin (or_add rfl) (go_tm (ge_bin (or_mul rfl) (go_sub rfl hu1 (go_sl (pv 0)) (go_tm (ge_int))) (go_tm (ge_int)))) (go_tm (ge_int))))))) (go_tm (ge_int)))) (gg_ix hu1 (pv 0) (ge_int))) <|
    gs_one (g_ret (ge_rd (ge_bin (or_mod) (go_tm (ge_callTy (cr_int) T.n_int bb_int (by rfl) (ga_one (go_tm (ge_bin (or_fdiv) (go_sub rfl hu1 (go_sl (pv 0)) (go_tm (ge_int))) (go_tm (ge_int))))))) (go_sl (pv 1)))))) (gs_nil)) <|
    gs_cons (g_if (gt_rd (gt_cmp (or_eq rfl hu64) (go_sub rfl hu1 (go_sl (pv 0)) (go_tm (ge_int))) (go_tm (ge_int)) (by rfl))) (gs_cons (g_asg (ge_rd (ge_callB (cr_abs) T.n_abs bb_abs (by rfl) (ga_one (go_sub rfl hu1 (go_sub rfl hu1 (go_sl (pv 0)) (go_tm (ge_int))) (go_sub rfl hu1 (go_sl (pv 0)) (go_tm (ge_int))))))) (gg_ix hu1 (pv 0) (ge_int))) <|
    gs_one (g_asg (ge_rd (ge_bin (or_add rfl) (go_sub rfl hu1 (go_sl (pv 0)) (go_tm (ge_int))) (go_tm (ge_int)))) (gg_ix hu1 (pv 0) (ge_int)))) (gs_nil)) <|
    gs_cons (g_set (i := 2) sc__law_draw.nd rfl (.inl rfl) (ge_bin (or_mod) (go_tm (ge_callTy (cr_int) T.n_int bb_int (by rfl) (ga_one (go_sub rfl hu1 (go_sl (pv 0)) (go_tm (ge_int)))))) (go_sl (pv 1)))) <|
    gs_cons (g_asg (ge_rd (ge_bin (or_fdiv) (go_sub rfl hu1 (go_sl (pv 0)) (go_tm (ge_int))) (go_sl (pv 1)))) (gg_ix hu1 (pv 0) (ge_int))) <|
    gs_one (g_ret (ge_mov (pv 2)))
theorem ok__law_rising (T : Tab K mg ad fd) : GOk Pr w K mg base CX0 2 (ad 3) (fd 3) ["state", "most", "many"] (spG K mg 3 _law_risingF) :=
  fn_ok (k := 1) (N := ["state", "most", "many", "k"]) (ps := ["state", "most", "many"]) (b := _law_risingB) T.f__law_rising.f sc__law_rising (by decide) fun cdv A outer s H E P hr hgd =>
    have hu1 := room_u hr 1 (by decide); have hu64 := room_u hr 64 (by decide); have hu65 := room_u hr 65 (by decide); have hu66 := room_u hr 66 (by decide)
    gs_one (g_ret (ge_callTy (cr_tuple rfl) T.n_tuple bb_tuple (by rfl) (ga_one (go_tm (ge_sortset rfl rfl T.n_sorted (by rfl) T.n_set (by rfl) (ga_one (go_tm (ge_comp (own := [("k", 3)]) rfl sc__law_rising.nd (gi_range1 T.n_range (by rfl) (ga_one (go_sl (pv 2)))) (by exact blkOk_by (show blkC ["state", "most", "many", "k"] (defScope s__law_rising) _ _ = true from by decide +kernel)) (fun _ _ _ _ _ => gg_name sc__law_rising.nd rfl (by first | exact .inl rfl | exact .inr rfl) (hT := fun _ _ => wipe_set (by decide))) (fun _ _ _ _ _ => gts_nil) (fun _ _ _ _ _ => ge_fn (dvs := []) (ok__law_draw T) hr hgd (by decide) (by rfl) T.f__law_draw.g T.f__law_draw.p T.f__law_draw.b .nil pass0 (fun _ _ => .nil) (fun _ _ h => fnRun_len h) (ga_cons (go_sl (pv 0)) (ga_one (go_sl (pv 1)))))))))))))
theorem ok__law_pick (T : Tab K mg ad fd) : GOk Pr w K mg base CX0 2 (ad 4) (fd 4) ["state", "some"] (spG K mg 2 _law_pickF) :=
  fn_ok (k := 1) (N := ["state", "some"]) (ps := ["state", "some"]) (b := _law_pickB) T.f__law_pick.f sc__law_pick (by decide) fun cdv A outer s H E P hr hgd =>
    have hu1 := room_u hr 1 (by decide); have hu64 := room_u hr 64 (by decide); have hu65 := room_u hr 65 (by decide); have hu66 := room_u hr 66 (by decide)
    gs_one (g_ret (ge_sub (q := false) rfl hu1 (go_sl (pv 1)) (go_tm (ge_fn (dvs := []) (ok__law_draw T) hr hgd (by decide) (by rfl) T.f__law_draw.g T.f__law_draw.p T.f__law_draw.b .nil pass0 (fun _ _ => .nil) (fun _ _ h => fnRun_len h) (ga_cons (go_sl (pv 0)) (ga_one (go_tm (ge_callB (cr_len rfl) T.n_len bb_len (by rfl) (ga_one (go_sl (pv 1)))))))))))
theorem ok__law_calendar (T : Tab K mg ad fd) : GOk Pr w K mg base CX0 3 (ad 5) (fd 5) ["state"] (spG K mg 1 _law_calendarF) :=
  fn_ok (k := 2) (N := ["state"]) (ps := ["state"]) (b := _law_calendarB) T.f__law_calendar.f sc__law_calendar (by decide) fun cdv A outer s H E P hr hgd =>
    have hu1 := room_u hr 1 (by decide); have hu64 := room_u hr 64 (by decide); have hu65 := room_u hr 65 (by decide); have hu66 := room_u hr 66 (by decide)
    gs_one (g_ret (ge_tup (ga_cons (go_tm (ge_sl rfl (go_tm (ge_fn (dvs := []) (ok__law_rising T) hr hgd (by decide) (by rfl) T.f__law_rising.g T.f__law_rising.p T.f__law_rising.b .nil pass0 (fun _ _ => .nil) (fun _ _ h => fnRun_len h) (ga_cons (go_sl (pv 0)) (ga_cons (go_tm (ge_int)) (ga_one (go_tm (ge_fn (dvs := []) (ok__law_draw T) hr hgd (by decide) (by rfl) T.f__law_draw.g T.f__law_draw.p T.f__law_draw.b .nil pass0 (fun _ _ => .nil) (fun _ _ h => fnRun_len h) (ga_cons (go_sl (pv 0)) (ga_one (go_tm (ge_int))))))))))) (gp_none) (gp_some (ge_int)))) (ga_one (go_tm (ge_fn (dvs := []) (ok__law_rising T) hr hgd (by decide) (by rfl) T.f__law_rising.g T.f__law_rising.p T.f__law_rising.b .nil pass0 (fun _ _ => .nil) (fun _ _ h => fnRun_len h) (ga_cons (go_sl (pv 0)) (ga_cons (go_tm (ge_fn (dvs := []) (ok__law_pick T) hr hgd (by decide) (by rfl) T.f__law_pick.g T.f__law_pick.p T.f__law_pick.b .nil pass0 (fun _ _ => .nil) (fun _ _ h => fnRun_len h) (ga_cons (go_sl (pv 0)) (ga_one (go_tm (ge_lst (ga_cons (go_tm (ge_int)) (ga_cons (go_tm (ge_int)) (ga_one (go_tm (ge_int))))))))))) (ga_one (go_tm (ge_fn (dvs := []) (ok__law_pick T) hr hgd (by decide) (by rfl) T.f__law_pick.g T.f__law_pick.p T.f__law_pick.b .nil pass0 (fun _ _ => .nil) (fun _ _ h => fnRun_len h) (ga_cons (go_sl (pv 0)) (ga_one (go_tm (ge_lst (ga_cons (go_tm (ge_int)) (ga_cons (go_tm (ge_int)) (ga_cons (go_tm (ge_int)) (ga_one (go_tm (ge_int)))))))))))))))))))))
theorem ok__law_other (T : Tab K mg ad fd) : GOk Pr w K mg base CX0 4 (ad 6) (fd 6) ["state", "calendar"] (spG K mg 2 _law_otherF) :=
  fn_ok (k := 3) (N := ["state", "calendar", "rest", "holidays", "some", "day"]) (ps := ["state", "calendar"]) (b := _law_otherB) T.f__law_other.f sc__law_other (by decide) fun cdv A outer s H E P hr hgd =>
    have hu1 := room_u hr 1 (by decide); have hu64 := room_u hr 64 (by decide); have hu65 := room_u hr 65 (by decide); have hu66 := room_u hr 66 (by decide)
    gs_cons (g_asg (ge_name (pv 1)) (gg_tup rfl rfl (ggs_cons tr_true (gg_name sc__law_other.nd rfl (by first | exact .inl rfl | exact .inr rfl)) (ggs_cons tr_true (gg_name sc__law_other.nd rfl (by first | exact .inl rfl | exact .inr rfl)) (ggs_nil tr_true))))) <|
    gs_cons (g_set (i := 4) sc__law_other.nd rfl (.inl rfl) (ge_lst (ga_cons (go_tm (ge_name (pv 1))) (ga_cons (go_tm (ge_fn (dvs := []) (ok__law_calendar T) hr hgd (by decide) (by rfl) T.f__law_calendar.g T.f__law_calendar.p T.f__law_calendar.b .nil pass0 (fun _ _ => .nil) (fun _ _ h => fnRun_len h) (ga_one (go_sl (pv 0))))) (ga_one (go_tm (ge_tup (ga_cons (go_tm (ge_name (pv 2))) (ga_one (go_tm (ge_sl rfl (go_sl (pv 3)) (gp_none) (gp_some (ge_un or_neg (go_tm (ge_int))))))))))))))) <|
    gs_cons (g_for PassesOwn.never rfl (gi_list rfl (ge_lst (ga_cons (go_tm (ge_fn (dvs := []) (ok__law_draw T) hr hgd (by decide) (by rfl) T.f__law_draw.g T.f__law_draw.p T.f__law_draw.b .nil pass0 (fun _ _ => .nil) (fun _ _ h => fnRun_len h) (ga_cons (go_sl (pv 0)) (ga_one (go_tm (ge_int)))))) (ga_one (go_tm (ge_bin (or_sub) (go_tm (ge_int)) (go_tm (ge_fn (dvs := []) (ok__law_draw T) hr hgd (by decide) (by rfl) T.f__law_draw.g T.f__law_draw.p T.f__law_draw.b .nil pass0 (fun _ _ => .nil) (fun _ _ h => fnRun_len h) (ga_cons (go_sl (pv 0)) (ga_one (go_tm (ge_int)))))))))))) (gg_name sc__law_other.nd rfl (by first | exact .inl rfl | exact .inr rfl)) (gs_one (g_expr (ge_mut rfl PySem.F.plainAttrs_list PySem.F.slot_list_append PySem.F.type_list_append mt_appP (by decide) (pv 4) (ga_one (go_tm (ge_tup (ga_cons (go_tm (ge_name (pv 2))) (ga_one (go_tm (ge_callTy (cr_tuple rfl) T.n_tuple bb_tuple (by rfl) (ga_one (go_tm (ge_sortset rfl rfl T.n_sorted (by rfl) T.n_set (by rfl) (ga_one (go_tm (ge_bin (or_add rfl) (go_sl (pv 3)) (go_tm (ge_tup (ga_one (go_tm (ge_name (pv 5))))))))))))))))))))))) <|
    gs_one (g_ret (ge_fn (dvs := []) (ok__law_pick T) hr hgd (by decide) (by rfl) T.f__law_pick.g T.f__law_pick.p T.f__law_pick.b .nil pass0 (fun _ _ => .nil) (fun _ _ h => fnRun_len h) (ga_cons (go_sl (pv 0)) (ga_one (go_tm (ge_bin (or_add rfl) (go_sl (pv 4)) (go_tm (ge_lst (ga_one (go_tm (ge_tup (ga_cons (go_tm (ge_name (pv 2))) (ga_one (go_tm (ge_callTy (cr_tuple rfl) T.n_tuple bb_tuple (by rfl) (ga_one (go_tm (ge_comp (own := [("day", 5)]) rfl sc__law_other.nd (gi_list rfl (ge_name (pv 3))) (by exact blkOk_by (show blkC ["state", "calendar", "rest", "holidays", "some", "day"] (defScope s__law_other) _ _ = true from by decide +kernel)) (fun _ _ _ _ _ => gg_name sc__law_other.nd rfl (by first | exact .inl rfl | exact .inr rfl) (hT := fun _ _ => wipe_set (by decide))) (fun _ _ _ _ _ => gts_one (gt_cmp (or_nin rfl hu65) (go_tm (ge_bin (or_mod) (go_tm (ge_callTy (cr_int) T.n_int bb_int (by rfl) (ga_one (go_sl (pv 5))))) (go_tm (ge_int)))) (go_sl (pv 2)) (by rfl))) (fun _ _ _ _ _ => ge_name (pv 5))))))))))))))))))))
theorem ok_rising (T : Tab K mg ad fd) : GOk Pr w K mg base CX0 1 (ad 7) (fd 7) ["row"] (spG K mg 1 risingF) :=
  fn_ok (k := 0) (N := ["row", "at"]) (ps := ["row"]) (b := risingB) T.f_rising.f sc_rising (by decide) fun cdv A outer s H E P hr hgd =>
    have hu1 := room_u hr 1 (by decide); have hu64 := room_u hr 64 (by decide); have hu65 := room_u hr 65 (by decide); have hu66 := room_u hr 66 (by decide)
    gs_one (g_ret (ge_callB (cr_allP rfl rfl) T.n_all bb_all (by rfl) (ga_one (go_tm (ge_comp (own := [("at", 1)]) rfl sc_rising.nd (gi_range1 T.n_range (by rfl) (ga_one (go_tm (ge_bin (or_sub) (go_tm (ge_callB (cr_len rfl) T.n_len bb_len (by rfl) (ga_one (go_sl (pv 0))))) (go_tm (ge_int)))))) (by exact blkOk_by (show blkC ["row", "at"] (defScope s_rising) _ _ = true from by decide +kernel)) (fun _ _ _ _ _ => gg_name sc_rising.nd rfl (by first | exact .inl rfl | exact .inr rfl) (hT := fun _ _ => wipe_set (by decide))) (fun _ _ _ _ _ => gts_nil) (fun _ _ _ _ _ => ge_rd (ge_cmp (or_lt) (go_sub rfl hu1 (go_sl (pv 0)) (go_sl (pv 1))) (go_sub rfl hu1 (go_sl (pv 0)) (go_tm (ge_bin (or_add rfl) (go_sl (pv 1)) (go_tm (ge_int))))) (by rfl))))))))
theorem ok_is_integer (T : Tab K mg ad fd) : GOk Pr w K mg base CX0 1 (ad 8) (fd 8) ["value"] (spG K mg 1 is_integerF) :=
  fn_ok (k := 0) (N := ["value"]) (ps := ["value"]) (b := is_integerB) T.f_is_integer.f sc_is_integer (by decide) fun cdv A outer s H E P hr hgd =>
    have hu1 := room_u hr 1 (by decide); have hu64 := room_u hr 64 (by decide); have hu65 := room_u hr 65 (by decide); have hu66 := room_u hr 66 (by decide)
    gs_one (g_ret (ge_and (ge_callB (cr_isi rfl) T.n_isinstance bb_isinstance (by rfl) (ga_cons (go_sl (pv 0)) (ga_one (go_tm (ge_tyN T.n_int (by rfl) bb_int))))) (ge_one (ge_not (ge_callB (cr_isi rfl) T.n_isinstance bb_isinstance (by rfl) (ga_cons (go_sl (pv 0)) (ga_one (go_tm (ge_tyN T.n_bool (by rfl) bb_bool)))))))))
theorem ok_check_calendar (T : Tab K mg ad fd) : GOk Pr w K mg base CX0 2 (ad 9) (fd 9) ["calendar"] (spG K mg 1 check_calendarF) :=
  fn_ok (k := 1) (N := ["calendar", "rest", "holidays", "part", "day"]) (ps := ["calendar"]) (b := check_calendarB) T.f_check_calendar.f sc_check_calendar (by decide) fun cdv A outer s H E P hr hgd =>
    have hu1 := room_u hr 1 (by decide); have hu64 := room_u hr 64 (by decide); have hu65 := room_u hr 65 (by decide); have hu66 := room_u hr 66 (by decide)
    gs_cons (g_if (PW.pt (gw_or (gt_not (gt_val (ge_callB (cr_isi rfl) T.n_isinstance bb_isinstance (by rfl) (ga_cons (go_sl (pv 0)) (ga_one (go_tm (ge_tyN T.n_tuple (by rfl) bb_tuple))))))) (gw_or (gt_cmp (or_ne rfl hu64) (go_tm (ge_callB (cr_len rfl) T.n_len bb_len (by rfl) (ga_one (go_sl (pv 0))))) (go_tm (ge_int)) (by rfl)) (gw_or1 (gt_not (gt_val (ge_callB (cr_allP rfl rfl) T.n_all bb_all (by rfl) (ga_one (go_tm (ge_comp (own := [("part", 3)]) rfl sc_check_calendar.nd (gi_list rfl (ge_name (pv 0))) (by exact blkOk_by (show blkC ["calendar", "rest", "holidays", "part", "day"] (defScope s_check_calendar) _ _ = true from by decide +kernel)) (fun _ _ _ _ _ => gg_name sc_check_calendar.nd rfl (by first | exact .inl rfl | exact .inr rfl) (hT := fun _ _ => wipe_set (by decide))) (fun _ _ _ _ _ => gts_nil) (fun _ _ _ _ _ => ge_callB (cr_isi rfl) T.n_isinstance bb_isinstance (by rfl) (ga_cons (go_sl (pv 3)) (ga_one (go_tm (ge_tyN T.n_tuple (by rfl) bb_tuple))))))))))))))) (gs_one (g_never)) (gs_nil)) <|
    gs_cons (g_asg (ge_name (pv 0)) (gg_tup rfl rfl (ggs_cons tr_true (gg_name sc_check_calendar.nd rfl (by first | exact .inl rfl | exact .inr rfl)) (ggs_cons tr_true (gg_name sc_check_calendar.nd rfl (by first | exact .inl rfl | exact .inr rfl)) (ggs_nil tr_true))))) <|
    gs_cons (g_if (PW.pt (gw_or (gt_cmp (or_gt) (go_tm (ge_callB (cr_len rfl) T.n_len bb_len (by rfl) (ga_one (go_sl (pv 1))))) (go_tm (ge_int)) (by rfl)) (gw_or1 (gt_not (gt_val (ge_callB (cr_allP rfl rfl) T.n_all bb_all (by rfl) (ga_one (go_tm (ge_comp (own := [("day", 4)]) rfl sc_check_calendar.nd (gi_list rfl (ge_name (pv 1))) (by exact blkOk_by (show blkC ["calendar", "rest", "holidays", "part", "day"] (defScope s_check_calendar) _ _ = true from by decide +kernel)) (fun _ _ _ _ _ => gg_name sc_check_calendar.nd rfl (by first | exact .inl rfl | exact .inr rfl) (hT := fun _ _ => wipe_set (by decide))) (fun _ _ _ _ _ => gts_nil) (fun _ _ _ _ _ => ge_and (ge_fn (dvs := []) (ok_is_integer T) hr hgd (by decide) (by rfl) T.f_is_integer.g T.f_is_integer.p T.f_is_integer.b .nil pass0 (fun _ _ => .nil) (fun _ _ h => fnRun_len h) (ga_one (go_sl (pv 4)))) (ge_one (ge_chain (or_le) (or_le) (go_tm (ge_int)) (go_sl (pv 4)) (go_tm (ge_int)))))))))))))) (gs_one (g_never)) (gs_nil)) <|
    gs_cons (g_if (PW.pt (gw_or (gt_cmp (or_gt) (go_tm (ge_callB (cr_len rfl) T.n_len bb_len (by rfl) (ga_one (go_sl (pv 2))))) (go_tm (ge_ck T.c_MAX_ROWS rfl (by rfl))) (by rfl)) (gw_or1 (gt_not (gt_val (ge_callB (cr_allP rfl rfl) T.n_all bb_all (by rfl) (ga_one (go_tm (ge_comp (own := [("day", 4)]) rfl sc_check_calendar.nd (gi_list rfl (ge_name (pv 2))) (by exact blkOk_by (show blkC ["calendar", "rest", "holidays", "part", "day"] (defScope s_check_calendar) _ _ = true from by decide +kernel)) (fun _ _ _ _ _ => gg_name sc_check_calendar.nd rfl (by first | exact .inl rfl | exact .inr rfl) (hT := fun _ _ => wipe_set (by decide))) (fun _ _ _ _ _ => gts_nil) (fun _ _ _ _ _ => ge_and (ge_fn (dvs := []) (ok_is_integer T) hr hgd (by decide) (by rfl) T.f_is_integer.g T.f_is_integer.p T.f_is_integer.b .nil pass0 (fun _ _ => .nil) (fun _ _ h => fnRun_len h) (ga_one (go_sl (pv 4)))) (ge_one (ge_chain (or_le) (or_le) (go_tm (ge_int)) (go_sl (pv 4)) (go_tm (ge_ck T.c_MAX_TIME rfl (by rfl))))))))))))))) (gs_one (g_never)) (gs_nil)) <|
    gs_one (g_if (PW.pt (gw_or (gt_not (gt_val (ge_fn (dvs := []) (ok_rising T) hr hgd (by decide) (by rfl) T.f_rising.g T.f_rising.p T.f_rising.b .nil pass0 (fun _ _ => .nil) (fun _ _ h => fnRun_len h) (ga_one (go_sl (pv 1)))))) (gw_or1 (gt_not (gt_val (ge_fn (dvs := []) (ok_rising T) hr hgd (by decide) (by rfl) T.f_rising.g T.f_rising.p T.f_rising.b .nil pass0 (fun _ _ => .nil) (fun _ _ h => fnRun_len h) (ga_one (go_sl (pv 2))))))))) (gs_one (g_never)) (gs_nil))
theorem ok_check_day (T : Tab K mg ad fd) : GOk Pr w K mg base CX0 2 (ad 10) (fd 10) ["day", "reason"] (spG K mg 2 check_dayF) :=
  fn_okD (k := 1) (N := ["day", "reason"]) (ps := ["day", "reason"]) (b := check_dayB) T.f_check_day.f sc_check_day (by decide) fun cdv A outer s H E P hr hgd =>
    have hu1 := room_u hr 1 (by decide); have hu64 := room_u hr 64 (by decide); have hu65 := room_u hr 65 (by decide); have hu66 := room_u hr 66 (by decide)
    gs_one (g_if (PW.pt (gw_or (gt_not (gt_val (ge_fn (dvs := []) (ok_is_integer T) hr hgd (by decide) (by rfl) T.f_is_integer.g T.f_is_integer.p T.f_is_integer.b .nil pass0 (fun _ _ => .nil) (fun _ _ h => fnRun_len h) (ga_one (go_sl (pv 0)))))) (gw_or1 (gt_not (gt_chain (or_le) (or_le) (go_tm (ge_int)) (go_sl (pv 0)) (go_tm (ge_ck T.c_MAX_TIME rfl (by rfl)))))))) (gs_one (g_never)) (gs_nil))
theorem ok_check_count (T : Tab K mg ad fd) : GOk Pr w K mg base CX0 2 (ad 11) (fd 11) ["count"] (spG K mg 1 check_countF) :=
  fn_ok (k := 1) (N := ["count"]) (ps := ["count"]) (b := check_countB) T.f_check_count.f sc_check_count (by decide) fun cdv A outer s H E P hr hgd =>
    have hu1 := room_u hr 1 (by decide); have hu64 := room_u hr 64 (by decide); have hu65 := room_u hr 65 (by decide); have hu66 := room_u hr 66 (by decide)
    gs_one (g_if (PW.pt (gw_or (gt_not (gt_val (ge_fn (dvs := []) (ok_is_integer T) hr hgd (by decide) (by rfl) T.f_is_integer.g T.f_is_integer.p T.f_is_integer.b .nil pass0 (fun _ _ => .nil) (fun _ _ h => fnRun_len h) (ga_one (go_sl (pv 0)))))) (gw_or1 (gt_not (gt_chain (or_le) (or_le) (go_tm (ge_int)) (go_sl (pv 0)) (go_tm (ge_ck T.c_MAX_TIME rfl (by rfl)))))))) (gs_one (g_never)) (gs_nil))
theorem ok_open_ahead (T : Tab K mg ad fd) : GOk Pr w K mg base CX0 1 (ad 12) (fd 12) ["calendar", "day"] (spG K mg 2 open_aheadF) :=
  fn_ok (k := 0) (N := ["calendar", "day", "weeks", "left", "rest", "plain", "own"]) (ps := ["calendar", "day"]) (b := open_aheadB) T.f_open_ahead.f sc_open_ahead (by decide) fun cdv A outer s H E P hr hgd =>
    have hu1 := room_u hr 1 (by decide); have hu64 := room_u hr 64 (by decide); have hu65 := room_u hr 65 (by decide); have hu66 := room_u hr 66 (by decide)
    gs_cons (g_par (i := 2) (j := 3) rfl sc_open_ahead.nd rfl rfl (by decide) (by rfl) (by rfl) (ga_cons (go_tm (ge_bin (or_fdiv) (go_sl (pv 1)) (go_tm (ge_int)))) (ga_one (go_tm (ge_bin (or_mod) (go_sl (pv 1)) (go_tm (ge_int))))))) <|
    gs_cons (g_set (i := 4) sc_open_ahead.nd rfl (.inr rfl) (ge_sub (q := false) rfl hu1 (go_sl (pv 0)) (go_tm (ge_int)))) <|
    gs_cons (g_set (i := 5) sc_open_ahead.nd rfl (.inl rfl) (ge_bin (or_add rfl) (go_tm (ge_bin (or_mul rfl) (go_sl (pv 2)) (go_tm (ge_bin (or_sub) (go_tm (ge_int)) (go_tm (ge_callB (cr_len rfl) T.n_len bb_len (by rfl) (ga_one (go_sl (pv 4))))))))) (go_tm (ge_callB (cr_len rfl) T.n_len bb_len (by rfl) (ga_one (go_tm (ge_comp (own := [("own", 6)]) rfl sc_open_ahead.nd (gi_range1 T.n_range (by rfl) (ga_one (go_sl (pv 3)))) (by exact blkOk_by (show blkC ["calendar", "day", "weeks", "left", "rest", "plain", "own"] (defScope s_open_ahead) _ _ = true from by decide +kernel)) (fun _ _ _ _ _ => gg_name sc_open_ahead.nd rfl (by first | exact .inl rfl | exact .inr rfl) (hT := fun _ _ => wipe_set (by decide))) (fun _ _ _ _ _ => gts_one (gt_cmp (or_nin rfl hu65) (go_sl (pv 6)) (go_sl (pv 4)) (by rfl))) (fun _ _ _ _ _ => ge_name (pv 6))))))))) <|
    gs_one (g_ret (ge_bin (or_sub) (go_sl (pv 5)) (go_tm (ge_callB (cr_len rfl) T.n_len bb_len (by rfl) (ga_one (go_tm (ge_comp (own := [("own", 6)]) rfl sc_open_ahead.nd (gi_list rfl (ge_sub (q := false) rfl hu1 (go_sl (pv 0)) (go_tm (ge_int)))) (by exact blkOk_by (show blkC ["calendar", "day", "weeks", "left", "rest", "plain", "own"] (defScope s_open_ahead) _ _ = true from by decide +kernel)) (fun _ _ _ _ _ => gg_name sc_open_ahead.nd rfl (by first | exact .inl rfl | exact .inr rfl) (hT := fun _ _ => wipe_set (by decide))) (fun _ _ _ _ _ => gts_one (PW.pt (gw_and (gt_cmp (or_lt) (go_sl (pv 6)) (go_sl (pv 1)) (by rfl)) (gw_and1 (gt_cmp (or_nin rfl hu65) (go_tm (ge_bin (or_mod) (go_sl (pv 6)) (go_tm (ge_int)))) (go_sl (pv 4)) (by rfl)))))) (fun _ _ _ _ _ => ge_name (pv 6)))))))))
theorem ok_with_ahead (T : Tab K mg ad fd) : GOk Pr w K mg base CX0 2 (ad 13) (fd 13) ["calendar", "goal"] (spG K mg 2 with_aheadF) :=
  fn_ok (k := 1) (N := ["calendar", "goal", "low", "high", "middle"]) (ps := ["calendar", "goal"]) (b := with_aheadB) T.f_with_ahead.f sc_with_ahead (by decide) fun cdv A outer s H E P hr hgd =>
    have hu1 := room_u hr 1 (by decide); have hu64 := room_u hr 64 (by decide); have hu65 := room_u hr 65 (by decide); have hu66 := room_u hr 66 (by decide)
    gs_cons (g_par (i := 2) (j := 3) rfl sc_with_ahead.nd rfl rfl (by decide) (by rfl) (by rfl) (ga_cons (go_tm (ge_int)) (ga_one (go_tm (ge_bin (or_mul rfl) (go_tm (ge_int)) (go_tm (ge_bin (or_add rfl) (go_tm (ge_bin (or_add rfl) (go_sl (pv 1)) (go_tm (ge_callB (cr_len rfl) T.n_len bb_len (by rfl) (ga_one (go_sub rfl hu1 (go_sl (pv 0)) (go_tm (ge_int)))))))) (go_tm (ge_int))))))))) <|
    gs_cons (g_while PassesOwn.never (gt_cmp (or_lt) (go_sl (pv 2)) (go_sl (pv 3)) (by rfl)) (gs_cons (g_set (i := 4) sc_with_ahead.nd rfl (.inl rfl) (ge_bin (or_fdiv) (go_tm (ge_bin (or_add rfl) (go_sl (pv 2)) (go_sl (pv 3)))) (go_tm (ge_int)))) <|
    gs_one (g_if (gt_cmp (or_ge) (go_tm (ge_fn (dvs := []) (ok_open_ahead T) hr hgd (by decide) (by rfl) T.f_open_ahead.g T.f_open_ahead.p T.f_open_ahead.b .nil pass0 (fun _ _ => .nil) (fun _ _ h => fnRun_len h) (ga_cons (go_sl (pv 0)) (ga_one (go_tm (ge_bin (or_add rfl) (go_sl (pv 4)) (go_tm (ge_int)))))))) (go_sl (pv 1)) (by rfl)) (gs_one (g_set (i := 3) sc_with_ahead.nd rfl (.inl rfl) (ge_name (pv 4)))) (gs_one (g_set (i := 2) sc_with_ahead.nd rfl (.inl rfl) (ge_bin (or_add rfl) (go_sl (pv 4)) (go_tm (ge_int)))))))) <|
    gs_one (g_ret (ge_mov (pv 2)))
theorem ok_add_open (T : Tab K mg ad fd) : GOk Pr w K mg base CX0 3 (ad 14) (fd 14) ["calendar", "day", "count"] (spG K mg 3 add_openF) :=
  fn_ok (k := 2) (N := ["calendar", "day", "count", "goal"]) (ps := ["calendar", "day", "count"]) (b := add_openB) T.f_add_open.f sc_add_open (by decide) fun cdv A outer s H E P hr hgd =>
    have hu1 := room_u hr 1 (by decide); have hu64 := room_u hr 64 (by decide); have hu65 := room_u hr 65 (by decide); have hu66 := room_u hr 66 (by decide)
    gs_cons (g_expr (ge_fn (dvs := []) (ok_check_calendar T) hr hgd (by decide) (by rfl) T.f_check_calendar.g T.f_check_calendar.p T.f_check_calendar.b .nil pass0 (fun _ _ => .nil) (fun _ _ h => fnRun_len h) (ga_one (go_sl (pv 0))))) <|
    gs_cons (g_expr (ge_fnD (ok_check_day T) hr hgd (by decide) (by rfl) T.f_check_day.g T.f_check_day.p T.f_check_day.b1 pass0 (fun _ _ => .str _) (fun _ _ h => fnRun_len h) (ga_one (go_sl (pv 1))))) <|
    gs_cons (g_expr (ge_fn (dvs := []) (ok_check_count T) hr hgd (by decide) (by rfl) T.f_check_count.g T.f_check_count.p T.f_check_count.b .nil pass0 (fun _ _ => .nil) (fun _ _ h => fnRun_len h) (ga_one (go_sl (pv 2))))) <|
    gs_cons (g_set (i := 3) sc_add_open.nd rfl (.inl rfl) (ge_bin (or_add rfl) (go_tm (ge_fn (dvs := []) (ok_open_ahead T) hr hgd (by decide) (by rfl) T.f_open_ahead.g T.f_open_ahead.p T.f_open_ahead.b .nil pass0 (fun _ _ => .nil) (fun _ _ h => fnRun_len h) (ga_cons (go_sl (pv 0)) (ga_one (go_tm (ge_bin (or_add rfl) (go_sl (pv 1)) (go_tm (ge_int)))))))) (go_sl (pv 2)))) <|
    gs_one (g_ret (ge_fn (dvs := []) (ok_with_ahead T) hr hgd (by decide) (by rfl) T.f_with_ahead.g T.f_with_ahead.p T.f_with_ahead.b .nil pass0 (fun _ _ => .nil) (fun _ _ h => fnRun_len h) (ga_cons (go_sl (pv 0)) (ga_one (go_sl (pv 3))))))
theorem ok_open_between (T : Tab K mg ad fd) : GOk Pr w K mg base CX0 3 (ad 15) (fd 15) ["calendar", "first", "last"] (spG K mg 3 open_betweenF) :=
  fn_ok (k := 2) (N := ["calendar", "first", "last"]) (ps := ["calendar", "first", "last"]) (b := open_betweenB) T.f_open_between.f sc_open_between (by decide) fun cdv A outer s H E P hr hgd =>
    have hu1 := room_u hr 1 (by decide); have hu64 := room_u hr 64 (by decide); have hu65 := room_u hr 65 (by decide); have hu66 := room_u hr 66 (by decide)
    gs_cons (g_expr (ge_fn (dvs := []) (ok_check_calendar T) hr hgd (by decide) (by rfl) T.f_check_calendar.g T.f_check_calendar.p T.f_check_calendar.b .nil pass0 (fun _ _ => .nil) (fun _ _ h => fnRun_len h) (ga_one (go_sl (pv 0))))) <|
    gs_cons (g_expr (ge_fn (dvs := []) (ok_check_day T) hr hgd (by decide) (by rfl) T.f_check_day.g T.f_check_day.p T.f_check_day.b .nil pass0 (fun _ _ => .nil) (fun _ _ h => fnRun_len h) (ga_cons (go_sl (pv 1)) (ga_one (go_tm (ge_str)))))) <|
    gs_cons (g_expr (ge_fn (dvs := []) (ok_check_day T) hr hgd (by decide) (by rfl) T.f_check_day.g T.f_check_day.p T.f_check_day.b .nil pass0 (fun _ _ => .nil) (fun _ _ h => fnRun_len h) (ga_cons (go_sl (pv 2)) (ga_one (go_tm (ge_str)))))) <|
    gs_cons (g_if (gt_cmp (or_gt) (go_sl (pv 1)) (go_sl (pv 2)) (by rfl)) (gs_one (g_never)) (gs_nil)) <|
    gs_one (g_ret (ge_bin (or_sub) (go_tm (ge_fn (dvs := []) (ok_open_ahead T) hr hgd (by decide) (by rfl) T.f_open_ahead.g T.f_open_ahead.p T.f_open_ahead.b .nil pass0 (fun _ _ => .nil) (fun _ _ h => fnRun_len h) (ga_cons (go_sl (pv 0)) (ga_one (go_sl (pv 2)))))) (go_tm (ge_fn (dvs := []) (ok_open_ahead T) hr hgd (by decide) (by rfl) T.f_open_ahead.g T.f_open_ahead.p T.f_open_ahead.b .nil pass0 (fun _ _ => .nil) (fun _ _ h => fnRun_len h) (ga_cons (go_sl (pv 0)) (ga_one (go_sl (pv 1))))))))
theorem ok_open_on (T : Tab K mg ad fd) : GOk Pr w K mg base CX0 1 (ad 16) (fd 16) ["calendar", "day"] (spG K mg 2 open_onF) :=
  fn_ok (k := 0) (N := ["calendar", "day"]) (ps := ["calendar", "day"]) (b := open_onB) T.f_open_on.f sc_open_on (by decide) fun cdv A outer s H E P hr hgd =>
    have hu1 := room_u hr 1 (by decide); have hu64 := room_u hr 64 (by decide); have hu65 := room_u hr 65 (by decide); have hu66 := room_u hr 66 (by decide)
    gs_one (g_ret (ge_and (ge_cmp (or_nin rfl hu65) (go_tm (ge_bin (or_mod) (go_sl (pv 1)) (go_tm (ge_int)))) (go_sub rfl hu1 (go_sl (pv 0)) (go_tm (ge_int))) (by rfl)) (ge_one (ge_cmp (or_nin rfl hu65) (go_sl (pv 1)) (go_sub rfl hu1 (go_sl (pv 0)) (go_tm (ge_int))) (by rfl)))))
theorem ok_next_open (T : Tab K mg ad fd) : GOk Pr w K mg base CX0 2 (ad 17) (fd 17) ["calendar", "day"] (spG K mg 2 next_openF) :=
  fn_ok (k := 1) (N := ["calendar", "day"]) (ps := ["calendar", "day"]) (b := next_openB) T.f_next_open.f sc_next_open (by decide) fun cdv A outer s H E P hr hgd =>
    have hu1 := room_u hr 1 (by decide); have hu64 := room_u hr 64 (by decide); have hu65 := room_u hr 65 (by decide); have hu66 := room_u hr 66 (by decide)
    gs_cons (g_while PassesOwn.never (gt_not (gt_val (ge_fn (dvs := []) (ok_open_on T) hr hgd (by decide) (by rfl) T.f_open_on.g T.f_open_on.p T.f_open_on.b .nil pass0 (fun _ _ => .nil) (fun _ _ h => fnRun_len h) (ga_cons (go_sl (pv 0)) (ga_one (go_sl (pv 1))))))) (gs_one (g_aug sc_next_open.nd rfl (.inl rfl) or_iadd (ge_int)))) <|
    gs_one (g_ret (ge_name (pv 1)))
theorem ok_last_open (T : Tab K mg ad fd) : GOk Pr w K mg base CX0 2 (ad 18) (fd 18) ["calendar", "day"] (spG K mg 2 last_openF) :=
  fn_ok (k := 1) (N := ["calendar", "day"]) (ps := ["calendar", "day"]) (b := last_openB) T.f_last_open.f sc_last_open (by decide) fun cdv A outer s H E P hr hgd =>
    have hu1 := room_u hr 1 (by decide); have hu64 := room_u hr 64 (by decide); have hu65 := room_u hr 65 (by decide); have hu66 := room_u hr 66 (by decide)
    gs_cons (g_while PassesOwn.never (PW.pt (gw_and (gt_cmp (or_ge) (go_sl (pv 1)) (go_tm (ge_int)) (by rfl)) (gw_and1 (gt_not (gt_val (ge_fn (dvs := []) (ok_open_on T) hr hgd (by decide) (by rfl) T.f_open_on.g T.f_open_on.p T.f_open_on.b .nil pass0 (fun _ _ => .nil) (fun _ _ h => fnRun_len h) (ga_cons (go_sl (pv 0)) (ga_one (go_sl (pv 1)))))))))) (gs_one (g_aug sc_last_open.nd rfl (.inl rfl) or_isub (ge_int)))) <|
    gs_one (g_ret (ge_if (gt_cmp (or_ge) (go_sl (pv 1)) (go_tm (ge_int)) (by rfl)) (ge_name (pv 1)) (ge_non)))
theorem ok_moved_to (T : Tab K mg ad fd) : GOk Pr w K mg base CX0 3 (ad 19) (fd 19) ["calendar", "day", "way"] (spG K mg 3 moved_toF) :=
  fn_ok (k := 2) (N := ["calendar", "day", "way", "later", "sooner"]) (ps := ["calendar", "day", "way"]) (b := moved_toB) T.f_moved_to.f sc_moved_to (by decide) fun cdv A outer s H E P hr hgd =>
    have hu1 := room_u hr 1 (by decide); have hu64 := room_u hr 64 (by decide); have hu65 := room_u hr 65 (by decide); have hu66 := room_u hr 66 (by decide)
    gs_cons (g_par (i := 3) (j := 4) rfl sc_moved_to.nd rfl rfl (by decide) (by rfl) (by rfl) (ga_cons (go_tm (ge_fn (dvs := []) (ok_next_open T) hr hgd (by decide) (by rfl) T.f_next_open.g T.f_next_open.p T.f_next_open.b .nil pass0 (fun _ _ => .nil) (fun _ _ h => fnRun_len h) (ga_cons (go_sl (pv 0)) (ga_one (go_sl (pv 1)))))) (ga_one (go_tm (ge_fn (dvs := []) (ok_last_open T) hr hgd (by decide) (by rfl) T.f_last_open.g T.f_last_open.p T.f_last_open.b .nil pass0 (fun _ _ => .nil) (fun _ _ h => fnRun_len h) (ga_cons (go_sl (pv 0)) (ga_one (go_sl (pv 1))))))))) <|
    gs_cons (g_if (PW.pt (gw_or (gt_cmp (or_eq rfl hu64) (go_sl (pv 2)) (go_tm (ge_str)) (by rfl)) (gw_or1 (gt_cmp (or_isN) (go_sl (pv 4)) (go_tm (ge_non)) (by rfl))))) (gs_one (g_ret (ge_mov (pv 3)))) (gs_nil)) <|
    gs_cons (g_if (gt_cmp (or_eq rfl hu64) (go_sl (pv 2)) (go_tm (ge_str)) (by rfl)) (gs_one (g_ret (ge_mov (pv 4)))) (gs_nil)) <|
    gs_one (g_ret (ge_if (gt_cmp (or_le) (go_tm (ge_bin (or_sub) (go_sl (pv 3)) (go_sl (pv 1)))) (go_tm (ge_bin (or_sub) (go_sl (pv 1)) (go_sl (pv 4)))) (by rfl)) (ge_mov (pv 3)) (ge_mov (pv 4))))
theorem ok_moved (T : Tab K mg ad fd) : GOk Pr w K mg base CX0 4 (ad 20) (fd 20) ["calendar", "day", "way"] (spG K mg 3 movedF) :=
  fn_ok (k := 3) (N := ["calendar", "day", "way"]) (ps := ["calendar", "day", "way"]) (b := movedB) T.f_moved.f sc_moved (by decide) fun cdv A outer s H E P hr hgd =>
    have hu1 := room_u hr 1 (by decide); have hu64 := room_u hr 64 (by decide); have hu65 := room_u hr 65 (by decide); have hu66 := room_u hr 66 (by decide)
    gs_cons (g_expr (ge_fn (dvs := []) (ok_check_calendar T) hr hgd (by decide) (by rfl) T.f_check_calendar.g T.f_check_calendar.p T.f_check_calendar.b .nil pass0 (fun _ _ => .nil) (fun _ _ h => fnRun_len h) (ga_one (go_sl (pv 0))))) <|
    gs_cons (g_expr (ge_fnD (ok_check_day T) hr hgd (by decide) (by rfl) T.f_check_day.g T.f_check_day.p T.f_check_day.b1 pass0 (fun _ _ => .str _) (fun _ _ h => fnRun_len h) (ga_one (go_sl (pv 1))))) <|
    gs_cons (g_if (PW.pt (gw_or (gt_not (gt_val (ge_callB (cr_isi rfl) T.n_isinstance bb_isinstance (by rfl) (ga_cons (go_sl (pv 2)) (ga_one (go_tm (ge_tyN T.n_str (by rfl) bb_str))))))) (gw_or1 (gt_cmp (or_nin rfl hu65) (go_sl (pv 2)) (go_tm (ge_ck T.c_WAYS rfl (by rfl))) (by rfl))))) (gs_one (g_never)) (gs_nil)) <|
    gs_one (g_ret (ge_fn (dvs := []) (ok_moved_to T) hr hgd (by decide) (by rfl) T.f_moved_to.g T.f_moved_to.p T.f_moved_to.b .nil pass0 (fun _ _ => .nil) (fun _ _ h => fnRun_len h) (ga_cons (go_sl (pv 0)) (ga_cons (go_sl (pv 1)) (ga_one (go_sl (pv 2)))))))
theorem ok_is_open (T : Tab K mg ad fd) : GOk Pr w K mg base CX0 3 (ad 21) (fd 21) ["calendar", "day"] (spG K mg 2 is_openF) :=
  fn_ok (k := 2) (N := ["calendar", "day"]) (ps := ["calendar", "day"]) (b := is_openB) T.f_is_open.f sc_is_open (by decide) fun cdv A outer s H E P hr hgd =>
    have hu1 := room_u hr 1 (by decide); have hu64 := room_u hr 64 (by decide); have hu65 := room_u hr 65 (by decide); have hu66 := room_u hr 66 (by decide)
    gs_cons (g_expr (ge_fn (dvs := []) (ok_check_calendar T) hr hgd (by decide) (by rfl) T.f_check_calendar.g T.f_check_calendar.p T.f_check_calendar.b .nil pass0 (fun _ _ => .nil) (fun _ _ h => fnRun_len h) (ga_one (go_sl (pv 0))))) <|
    gs_cons (g_expr (ge_fnD (ok_check_day T) hr hgd (by decide) (by rfl) T.f_check_day.g T.f_check_day.p T.f_check_day.b1 pass0 (fun _ _ => .str _) (fun _ _ h => fnRun_len h) (ga_one (go_sl (pv 1))))) <|
    gs_one (g_ret (ge_fn (dvs := []) (ok_open_on T) hr hgd (by decide) (by rfl) T.f_open_on.g T.f_open_on.p T.f_open_on.b .nil pass0 (fun _ _ => .nil) (fun _ _ h => fnRun_len h) (ga_cons (go_sl (pv 0)) (ga_one (go_sl (pv 1))))))
theorem ok_take_open (T : Tab K mg ad fd) : GOk Pr w K mg base CX0 3 (ad 22) (fd 22) ["calendar", "day", "count"] (spG K mg 3 take_openF) :=
  fn_ok (k := 2) (N := ["calendar", "day", "count", "goal"]) (ps := ["calendar", "day", "count"]) (b := take_openB) T.f_take_open.f sc_take_open (by decide) fun cdv A outer s H E P hr hgd =>
    have hu1 := room_u hr 1 (by decide); have hu64 := room_u hr 64 (by decide); have hu65 := room_u hr 65 (by decide); have hu66 := room_u hr 66 (by decide)
    gs_cons (g_expr (ge_fn (dvs := []) (ok_check_calendar T) hr hgd (by decide) (by rfl) T.f_check_calendar.g T.f_check_calendar.p T.f_check_calendar.b .nil pass0 (fun _ _ => .nil) (fun _ _ h => fnRun_len h) (ga_one (go_sl (pv 0))))) <|
    gs_cons (g_expr (ge_fnD (ok_check_day T) hr hgd (by decide) (by rfl) T.f_check_day.g T.f_check_day.p T.f_check_day.b1 pass0 (fun _ _ => .str _) (fun _ _ h => fnRun_len h) (ga_one (go_sl (pv 1))))) <|
    gs_cons (g_expr (ge_fn (dvs := []) (ok_check_count T) hr hgd (by decide) (by rfl) T.f_check_count.g T.f_check_count.p T.f_check_count.b .nil pass0 (fun _ _ => .nil) (fun _ _ h => fnRun_len h) (ga_one (go_sl (pv 2))))) <|
    gs_cons (g_set (i := 3) sc_take_open.nd rfl (.inl rfl) (ge_bin (or_add rfl) (go_tm (ge_bin (or_sub) (go_tm (ge_fn (dvs := []) (ok_open_ahead T) hr hgd (by decide) (by rfl) T.f_open_ahead.g T.f_open_ahead.p T.f_open_ahead.b .nil pass0 (fun _ _ => .nil) (fun _ _ h => fnRun_len h) (ga_cons (go_sl (pv 0)) (ga_one (go_sl (pv 1)))))) (go_sl (pv 2)))) (go_tm (ge_int)))) <|
    gs_one (g_ret (ge_if (gt_cmp (or_ge) (go_sl (pv 3)) (go_tm (ge_int)) (by rfl)) (ge_fn (dvs := []) (ok_with_ahead T) hr hgd (by decide) (by rfl) T.f_with_ahead.g T.f_with_ahead.p T.f_with_ahead.b .nil pass0 (fun _ _ => .nil) (fun _ _ h => fnRun_len h) (ga_cons (go_sl (pv 0)) (ga_one (go_sl (pv 3))))) (ge_non)))
theorem ok_judge_by (T : Tab K mg ad fd) : GOk Pr w K mg base CX0 3 (ad 23) (fd 23) ["calendar", "begin", "count", "end"] (spG K mg 4 judge_byF) :=
  fn_ok (k := 2) (N := ["calendar", "begin", "count", "end", "there"]) (ps := ["calendar", "begin", "count", "end"]) (b := judge_byB) T.f_judge_by.f sc_judge_by (by decide) fun cdv A outer s H E P hr hgd =>
    have hu1 := room_u hr 1 (by decide); have hu64 := room_u hr 64 (by decide); have hu65 := room_u hr 65 (by decide); have hu66 := room_u hr 66 (by decide)
    gs_cons (g_expr (ge_fn (dvs := []) (ok_check_calendar T) hr hgd (by decide) (by rfl) T.f_check_calendar.g T.f_check_calendar.p T.f_check_calendar.b .nil pass0 (fun _ _ => .nil) (fun _ _ h => fnRun_len h) (ga_one (go_sl (pv 0))))) <|
    gs_cons (g_expr (ge_fn (dvs := []) (ok_check_day T) hr hgd (by decide) (by rfl) T.f_check_day.g T.f_check_day.p T.f_check_day.b .nil pass0 (fun _ _ => .nil) (fun _ _ h => fnRun_len h) (ga_cons (go_sl (pv 1)) (ga_one (go_tm (ge_str)))))) <|
    gs_cons (g_expr (ge_fn (dvs := []) (ok_check_count T) hr hgd (by decide) (by rfl) T.f_check_count.g T.f_check_count.p T.f_check_count.b .nil pass0 (fun _ _ => .nil) (fun _ _ h => fnRun_len h) (ga_one (go_sl (pv 2))))) <|
    gs_cons (g_expr (ge_fn (dvs := []) (ok_check_day T) hr hgd (by decide) (by rfl) T.f_check_day.g T.f_check_day.p T.f_check_day.b .nil pass0 (fun _ _ => .nil) (fun _ _ h => fnRun_len h) (ga_cons (go_sl (pv 3)) (ga_one (go_tm (ge_str)))))) <|
    gs_cons (g_set (i := 4) sc_judge_by.nd rfl (.inl rfl) (ge_fn (dvs := []) (ok_with_ahead T) hr hgd (by decide) (by rfl) T.f_with_ahead.g T.f_with_ahead.p T.f_with_ahead.b .nil pass0 (fun _ _ => .nil) (fun _ _ h => fnRun_len h) (ga_cons (go_sl (pv 0)) (ga_one (go_tm (ge_bin (or_add rfl) (go_tm (ge_fn (dvs := []) (ok_open_ahead T) hr hgd (by decide) (by rfl) T.f_open_ahead.g T.f_open_ahead.p T.f_open_ahead.b .nil pass0 (fun _ _ => .nil) (fun _ _ h => fnRun_len h) (ga_cons (go_sl (pv 0)) (ga_one (go_tm (ge_bin (or_add rfl) (go_sl (pv 1)) (go_tm (ge_int)))))))) (go_sl (pv 2)))))))) <|
    gs_cons (g_if (gt_cmp (or_gt) (go_sl (pv 4)) (go_sl (pv 3)) (by rfl)) (gs_one (g_ret (ge_tup (ga_cons (go_tm (ge_str)) (ga_one (go_tm (ge_name (pv 4)))))))) (gs_nil)) <|
    gs_one (g_ret (ge_tup (ga_cons (go_tm (ge_str)) (ga_one (go_tm (ge_bin (or_sub) (go_tm (ge_fn (dvs := []) (ok_open_ahead T) hr hgd (by decide) (by rfl) T.f_open_ahead.g T.f_open_ahead.p T.f_open_ahead.b .nil pass0 (fun _ _ => .nil) (fun _ _ h => fnRun_len h) (ga_cons (go_sl (pv 0)) (ga_one (go_tm (ge_bin (or_add rfl) (go_sl (pv 3)) (go_tm (ge_int)))))))) (go_tm (ge_fn (dvs := []) (ok_open_ahead T) hr hgd (by decide) (by rfl) T.f_open_ahead.g T.f_open_ahead.p T.f_open_ahead.b .nil pass0 (fun _ _ => .nil) (fun _ _ h => fnRun_len h) (ga_cons (go_sl (pv 0)) (ga_one (go_tm (ge_bin (or_add rfl) (go_sl (pv 4)) (go_tm (ge_int))))))))))))))
theorem ok__law_open (T : Tab K mg ad fd) : GOk Pr w K mg base CX0 1 (ad 24) (fd 24) ["calendar", "day"] (spG K mg 2 _law_openF) :=
  fn_ok (k := 0) (N := ["calendar", "day"]) (ps := ["calendar", "day"]) (b := _law_openB) T.f__law_open.f sc__law_open (by decide) fun cdv A outer s H E P hr hgd =>
    have hu1 := room_u hr 1 (by decide); have hu64 := room_u hr 64 (by decide); have hu65 := room_u hr 65 (by decide); have hu66 := room_u hr 66 (by decide)
    gs_one (g_ret (ge_and (ge_cmp (or_nin rfl hu65) (go_tm (ge_bin (or_mod) (go_tm (ge_callTy (cr_int) T.n_int bb_int (by rfl) (ga_one (go_sl (pv 1))))) (go_tm (ge_int)))) (go_sub rfl hu1 (go_sl (pv 0)) (go_tm (ge_int))) (by rfl)) (ge_one (ge_cmp (or_nin rfl hu65) (go_sl (pv 1)) (go_sub rfl hu1 (go_sl (pv 0)) (go_tm (ge_int))) (by rfl)))))
theorem ok_accept_late (T : Tab K mg ad fd) : GOk Pr w K mg base CX0 3 (ad 25) (fd 25) ["calendar", "begin", "count", "end", "days"] (spG K mg 5 accept_lateF) :=
  fn_ok (k := 2) (N := ["calendar", "begin", "count", "end", "days", "day"]) (ps := ["calendar", "begin", "count", "end", "days"]) (b := accept_lateB) T.f_accept_late.f sc_accept_late (by decide) fun cdv A outer s H E P hr hgd =>
    have hu1 := room_u hr 1 (by decide); have hu64 := room_u hr 64 (by decide); have hu65 := room_u hr 65 (by decide); have hu66 := room_u hr 66 (by decide)
    gs_cons (g_expr (ge_fn (dvs := []) (ok_check_calendar T) hr hgd (by decide) (by rfl) T.f_check_calendar.g T.f_check_calendar.p T.f_check_calendar.b .nil pass0 (fun _ _ => .nil) (fun _ _ h => fnRun_len h) (ga_one (go_sl (pv 0))))) <|
    gs_cons (g_expr (ge_fn (dvs := []) (ok_check_day T) hr hgd (by decide) (by rfl) T.f_check_day.g T.f_check_day.p T.f_check_day.b .nil pass0 (fun _ _ => .nil) (fun _ _ h => fnRun_len h) (ga_cons (go_sl (pv 1)) (ga_one (go_tm (ge_str)))))) <|
    gs_cons (g_expr (ge_fn (dvs := []) (ok_check_count T) hr hgd (by decide) (by rfl) T.f_check_count.g T.f_check_count.p T.f_check_count.b .nil pass0 (fun _ _ => .nil) (fun _ _ h => fnRun_len h) (ga_one (go_sl (pv 2))))) <|
    gs_cons (g_expr (ge_fn (dvs := []) (ok_check_day T) hr hgd (by decide) (by rfl) T.f_check_day.g T.f_check_day.p T.f_check_day.b .nil pass0 (fun _ _ => .nil) (fun _ _ h => fnRun_len h) (ga_cons (go_sl (pv 3)) (ga_one (go_tm (ge_str)))))) <|
    gs_cons (g_if (PW.pt (gw_or (gt_not (gt_val (ge_callB (cr_isi rfl) T.n_isinstance bb_isinstance (by rfl) (ga_cons (go_sl (pv 4)) (ga_one (go_tm (ge_tyN T.n_tuple (by rfl) bb_tuple))))))) (gw_or1 (gt_not (gt_val (ge_callB (cr_allP rfl rfl) T.n_all bb_all (by rfl) (ga_one (go_tm (ge_comp (own := [("day", 5)]) rfl sc_accept_late.nd (gi_list rfl (ge_name (pv 4))) (by exact blkOk_by (show blkC ["calendar", "begin", "count", "end", "days", "day"] (defScope s_accept_late) _ _ = true from by decide +kernel)) (fun _ _ _ _ _ => gg_name sc_accept_late.nd rfl (by first | exact .inl rfl | exact .inr rfl) (hT := fun _ _ => wipe_set (by decide))) (fun _ _ _ _ _ => gts_nil) (fun _ _ _ _ _ => ge_and (ge_fn (dvs := []) (ok_is_integer T) hr hgd (by decide) (by rfl) T.f_is_integer.g T.f_is_integer.p T.f_is_integer.b .nil pass0 (fun _ _ => .nil) (fun _ _ h => fnRun_len h) (ga_one (go_sl (pv 5)))) (ge_one (ge_chain (or_le) (or_le) (go_tm (ge_int)) (go_sl (pv 5)) (go_tm (ge_ck T.c_MAX_TIME rfl (by rfl))))))))))))))) (gs_one (g_never)) (gs_nil)) <|
    gs_cons (g_if (gt_not (gt_val (ge_fn (dvs := []) (ok_rising T) hr hgd (by decide) (by rfl) T.f_rising.g T.f_rising.p T.f_rising.b .nil pass0 (fun _ _ => .nil) (fun _ _ h => fnRun_len h) (ga_one (go_sl (pv 4)))))) (gs_one (g_never)) (gs_nil)) <|
    gs_cons (g_if (gt_not (gt_val (ge_callB (cr_allP rfl rfl) T.n_all bb_all (by rfl) (ga_one (go_tm (ge_comp (own := [("day", 5)]) rfl sc_accept_late.nd (gi_list rfl (ge_name (pv 4))) (by exact blkOk_by (show blkC ["calendar", "begin", "count", "end", "days", "day"] (defScope s_accept_late) _ _ = true from by decide +kernel)) (fun _ _ _ _ _ => gg_name sc_accept_late.nd rfl (by first | exact .inl rfl | exact .inr rfl) (hT := fun _ _ => wipe_set (by decide))) (fun _ _ _ _ _ => gts_nil) (fun _ _ _ _ _ => ge_chain (or_lt) (or_le) (go_sl (pv 1)) (go_sl (pv 5)) (go_sl (pv 3))))))))) (gs_one (g_never)) (gs_nil)) <|
    gs_cons (g_if (gt_val (ge_callB (cr_anyP rfl rfl) T.n_any bb_any (by rfl) (ga_one (go_tm (ge_comp (own := [("day", 5)]) rfl sc_accept_late.nd (gi_list rfl (ge_name (pv 4))) (by exact blkOk_by (show blkC ["calendar", "begin", "count", "end", "days", "day"] (defScope s_accept_late) _ _ = true from by decide +kernel)) (fun _ _ _ _ _ => gg_name sc_accept_late.nd rfl (by first | exact .inl rfl | exact .inr rfl) (hT := fun _ _ => wipe_set (by decide))) (fun _ _ _ _ _ => gts_nil) (fun _ _ _ _ _ => ge_fn (dvs := []) (ok_open_on T) hr hgd (by decide) (by rfl) T.f_open_on.g T.f_open_on.p T.f_open_on.b .nil pass0 (fun _ _ => .nil) (fun _ _ h => fnRun_len h) (ga_cons (go_sl (pv 0)) (ga_one (go_sl (pv 5)))))))))) (gs_one (g_never)) (gs_nil)) <|
    gs_one (g_if (gt_cmp (or_ge) (go_tm (ge_bin (or_sub) (go_tm (ge_callB (cr_maxP rfl rfl) T.n_max bb_max (by rfl) (ga_cons (go_tm (ge_int)) (ga_one (go_tm (ge_bin (or_sub) (go_sl (pv 3)) (go_sl (pv 1)))))))) (go_tm (ge_callB (cr_len rfl) T.n_len bb_len (by rfl) (ga_one (go_sl (pv 4))))))) (go_sl (pv 2)) (by rfl)) (gs_one (g_never)) (gs_nil))
theorem ok_accept_by (T : Tab K mg ad fd) : GOk Pr w K mg base CX0 3 (ad 26) (fd 26) ["calendar", "begin", "count", "end", "days"] (spG K mg 5 accept_byF) :=
  fn_ok (k := 2) (N := ["calendar", "begin", "count", "end", "days", "day"]) (ps := ["calendar", "begin", "count", "end", "days"]) (b := accept_byB) T.f_accept_by.f sc_accept_by (by decide) fun cdv A outer s H E P hr hgd =>
    have hu1 := room_u hr 1 (by decide); have hu64 := room_u hr 64 (by decide); have hu65 := room_u hr 65 (by decide); have hu66 := room_u hr 66 (by decide)
    gs_cons (g_expr (ge_fn (dvs := []) (ok_check_calendar T) hr hgd (by decide) (by rfl) T.f_check_calendar.g T.f_check_calendar.p T.f_check_calendar.b .nil pass0 (fun _ _ => .nil) (fun _ _ h => fnRun_len h) (ga_one (go_sl (pv 0))))) <|
    gs_cons (g_expr (ge_fn (dvs := []) (ok_check_day T) hr hgd (by decide) (by rfl) T.f_check_day.g T.f_check_day.p T.f_check_day.b .nil pass0 (fun _ _ => .nil) (fun _ _ h => fnRun_len h) (ga_cons (go_sl (pv 1)) (ga_one (go_tm (ge_str)))))) <|
    gs_cons (g_expr (ge_fn (dvs := []) (ok_check_count T) hr hgd (by decide) (by rfl) T.f_check_count.g T.f_check_count.p T.f_check_count.b .nil pass0 (fun _ _ => .nil) (fun _ _ h => fnRun_len h) (ga_one (go_sl (pv 2))))) <|
    gs_cons (g_expr (ge_fn (dvs := []) (ok_check_day T) hr hgd (by decide) (by rfl) T.f_check_day.g T.f_check_day.p T.f_check_day.b .nil pass0 (fun _ _ => .nil) (fun _ _ h => fnRun_len h) (ga_cons (go_sl (pv 3)) (ga_one (go_tm (ge_str)))))) <|
    gs_cons (g_if (PW.pt (gw_or (gt_not (gt_val (ge_callB (cr_isi rfl) T.n_isinstance bb_isinstance (by rfl) (ga_cons (go_sl (pv 4)) (ga_one (go_tm (ge_tyN T.n_tuple (by rfl) bb_tuple))))))) (gw_or1 (gt_not (gt_val (ge_callB (cr_allP rfl rfl) T.n_all bb_all (by rfl) (ga_one (go_tm (ge_comp (own := [("day", 5)]) rfl sc_accept_by.nd (gi_list rfl (ge_name (pv 4))) (by exact blkOk_by (show blkC ["calendar", "begin", "count", "end", "days", "day"] (defScope s_accept_by) _ _ = true from by decide +kernel)) (fun _ _ _ _ _ => gg_name sc_accept_by.nd rfl (by first | exact .inl rfl | exact .inr rfl) (hT := fun _ _ => wipe_set (by decide))) (fun _ _ _ _ _ => gts_nil) (fun _ _ _ _ _ => ge_and (ge_fn (dvs := []) (ok_is_integer T) hr hgd (by decide) (by rfl) T.f_is_integer.g T.f_is_integer.p T.f_is_integer.b .nil pass0 (fun _ _ => .nil) (fun _ _ h => fnRun_len h) (ga_one (go_sl (pv 5)))) (ge_one (ge_chain (or_le) (or_le) (go_tm (ge_int)) (go_sl (pv 5)) (go_tm (ge_ck T.c_MAX_TIME rfl (by rfl))))))))))))))) (gs_one (g_never)) (gs_nil)) <|
    gs_cons (g_if (gt_not (gt_val (ge_fn (dvs := []) (ok_rising T) hr hgd (by decide) (by rfl) T.f_rising.g T.f_rising.p T.f_rising.b .nil pass0 (fun _ _ => .nil) (fun _ _ h => fnRun_len h) (ga_one (go_sl (pv 4)))))) (gs_one (g_never)) (gs_nil)) <|
    gs_cons (g_if (gt_not (gt_val (ge_callB (cr_allP rfl rfl) T.n_all bb_all (by rfl) (ga_one (go_tm (ge_comp (own := [("day", 5)]) rfl sc_accept_by.nd (gi_list rfl (ge_name (pv 4))) (by exact blkOk_by (show blkC ["calendar", "begin", "count", "end", "days", "day"] (defScope s_accept_by) _ _ = true from by decide +kernel)) (fun _ _ _ _ _ => gg_name sc_accept_by.nd rfl (by first | exact .inl rfl | exact .inr rfl) (hT := fun _ _ => wipe_set (by decide))) (fun _ _ _ _ _ => gts_nil) (fun _ _ _ _ _ => ge_chain (or_lt) (or_le) (go_sl (pv 1)) (go_sl (pv 5)) (go_sl (pv 3))))))))) (gs_one (g_never)) (gs_nil)) <|
    gs_cons (g_if (gt_not (gt_val (ge_callB (cr_allP rfl rfl) T.n_all bb_all (by rfl) (ga_one (go_tm (ge_comp (own := [("day", 5)]) rfl sc_accept_by.nd (gi_list rfl (ge_name (pv 4))) (by exact blkOk_by (show blkC ["calendar", "begin", "count", "end", "days", "day"] (defScope s_accept_by) _ _ = true from by decide +kernel)) (fun _ _ _ _ _ => gg_name sc_accept_by.nd rfl (by first | exact .inl rfl | exact .inr rfl) (hT := fun _ _ => wipe_set (by decide))) (fun _ _ _ _ _ => gts_nil) (fun _ _ _ _ _ => ge_fn (dvs := []) (ok_open_on T) hr hgd (by decide) (by rfl) T.f_open_on.g T.f_open_on.p T.f_open_on.b .nil pass0 (fun _ _ => .nil) (fun _ _ h => fnRun_len h) (ga_cons (go_sl (pv 0)) (ga_one (go_sl (pv 5))))))))))) (gs_one (g_never)) (gs_nil)) <|
    gs_one (g_if (gt_cmp (or_lt) (go_tm (ge_callB (cr_len rfl) T.n_len bb_len (by rfl) (ga_one (go_sl (pv 4))))) (go_sl (pv 2)) (by rfl)) (gs_one (g_never)) (gs_nil))
theorem ok__law_next (T : Tab K mg ad fd) : GOk Pr w K mg base CX0 2 (ad 27) (fd 27) ["calendar", "day", "many"] (spG K mg 3 _law_nextF) :=
  fn_ok (k := 1) (N := ["calendar", "day", "many"]) (ps := ["calendar", "day", "many"]) (b := _law_nextB) T.f__law_next.f sc__law_next (by decide) fun cdv A outer s H E P hr hgd =>
    have hu1 := room_u hr 1 (by decide); have hu64 := room_u hr 64 (by decide); have hu65 := room_u hr 65 (by decide); have hu66 := room_u hr 66 (by decide)
    gs_cons (g_while PassesOwn.never (gt_cmp (or_gt) (go_sl (pv 2)) (go_tm (ge_int)) (by rfl)) (gs_cons (g_set (i := 1) sc__law_next.nd rfl (.inl rfl) (ge_bin (or_add rfl) (go_sl (pv 1)) (go_tm (ge_int)))) <|
    gs_one (g_set (i := 2) sc__law_next.nd rfl (.inl rfl) (ge_bin (or_sub) (go_sl (pv 2)) (go_tm (ge_callTy (cr_int) T.n_int bb_int (by rfl) (ga_one (go_tm (ge_fn (dvs := []) (ok__law_open T) hr hgd (by decide) (by rfl) T.f__law_open.g T.f__law_open.p T.f__law_open.b .nil pass0 (fun _ _ => .nil) (fun _ _ h => fnRun_len h) (ga_cons (go_sl (pv 0)) (ga_one (go_sl (pv 1))))))))))))) <|
    gs_one (g_ret (ge_name (pv 1)))
theorem ok__law_by_holds (T : Tab K mg ad fd) : GOk Pr w K mg base CX0 4 (ad 28) (fd 28) ["state", "calendar", "day"] (spG K mg 3 _law_by_holdsF) :=
  fn_ok (k := 3) (N := ["state", "calendar", "day", "many", "end", "there", "told", "rest", "own"]) (ps := ["state", "calendar", "day"]) (b := _law_by_holdsB) T.f__law_by_holds.f sc__law_by_holds (by decide) fun cdv A outer s H E P hr hgd =>
    have hu1 := room_u hr 1 (by decide); have hu64 := room_u hr 64 (by decide); have hu65 := room_u hr 65 (by decide); have hu66 := room_u hr 66 (by decide)
    gs_cons (g_par (i := 3) (j := 4) rfl sc__law_by_holds.nd rfl rfl (by decide) (by rfl) (by rfl) (ga_cons (go_tm (ge_bin (or_add rfl) (go_tm (ge_int)) (go_tm (ge_fn (dvs := []) (ok__law_draw T) hr hgd (by decide) (by rfl) T.f__law_draw.g T.f__law_draw.p T.f__law_draw.b .nil pass0 (fun _ _ => .nil) (fun _ _ h => fnRun_len h) (ga_cons (go_sl (pv 0)) (ga_one (go_tm (ge_fn (dvs := []) (ok__law_pick T) hr hgd (by decide) (by rfl) T.f__law_pick.g T.f__law_pick.p T.f__law_pick.b .nil pass0 (fun _ _ => .nil) (fun _ _ h => fnRun_len h) (ga_cons (go_sl (pv 0)) (ga_one (go_tm (ge_lst (ga_cons (go_tm (ge_int)) (ga_one (go_tm (ge_int)))))))))))))))) (ga_one (go_tm (ge_fn (dvs := []) (ok__law_pick T) hr hgd (by decide) (by rfl) T.f__law_pick.g T.f__law_pick.p T.f__law_pick.b .nil pass0 (fun _ _ => .nil) (fun _ _ h => fnRun_len h) (ga_cons (go_sl (pv 0)) (ga_one (go_tm (ge_lst (ga_cons (go_tm (ge_bin (or_add rfl) (go_sl (pv 2)) (go_tm (ge_fn (dvs := []) (ok__law_draw T) hr hgd (by decide) (by rfl) T.f__law_draw.g T.f__law_draw.p T.f__law_draw.b .nil pass0 (fun _ _ => .nil) (fun _ _ h => fnRun_len h) (ga_cons (go_sl (pv 0)) (ga_one (go_tm (ge_int)))))))) (ga_one (go_tm (ge_fn (dvs := []) (ok__law_draw T) hr hgd (by decide) (by rfl) T.f__law_draw.g T.f__law_draw.p T.f__law_draw.b .nil pass0 (fun _ _ => .nil) (fun _ _ h => fnRun_len h) (ga_cons (go_sl (pv 0)) (ga_one (go_tm (ge_int))))))))))))))))) <|
    gs_cons (g_set (i := 5) sc__law_by_holds.nd rfl (.inr rfl) (ge_comp (own := [("own", 8)]) rfl sc__law_by_holds.nd (gi_range2 T.n_range (by rfl) (ga_cons (go_tm (ge_bin (or_add rfl) (go_sl (pv 2)) (go_tm (ge_int)))) (ga_one (go_tm (ge_bin (or_add rfl) (go_sl (pv 4)) (go_tm (ge_int))))))) (by exact blkOk_by (show blkC ["state", "calendar", "day", "many", "end", "there", "told", "rest", "own"] (defScope s__law_by_holds) _ _ = true from by decide +kernel)) (fun _ _ _ _ _ => gg_name sc__law_by_holds.nd rfl (by first | exact .inl rfl | exact .inr rfl) (hT := fun _ _ => wipe_set (by decide))) (fun _ _ _ _ _ => gts_one (gt_val (ge_fn (dvs := []) (ok__law_open T) hr hgd (by decide) (by rfl) T.f__law_open.g T.f__law_open.p T.f__law_open.b .nil pass0 (fun _ _ => .nil) (fun _ _ h => fnRun_len h) (ga_cons (go_sl (pv 1)) (ga_one (go_sl (pv 8))))))) (fun _ _ _ _ _ => ge_name (pv 8)))) <|
    gs_cons (g_set (i := 6) sc__law_by_holds.nd rfl (.inl rfl) (ge_fn (dvs := []) (ok_judge_by T) hr hgd (by decide) (by rfl) T.f_judge_by.g T.f_judge_by.p T.f_judge_by.b .nil pass0 (fun _ _ => .nil) (fun _ _ h => fnRun_len h) (ga_cons (go_sl (pv 1)) (ga_cons (go_sl (pv 2)) (ga_cons (go_sl (pv 3)) (ga_one (go_sl (pv 4)))))))) <|
    gs_cons (g_if (gt_cmp (or_ge) (go_tm (ge_callB (cr_len rfl) T.n_len bb_len (by rfl) (ga_one (go_sl (pv 5))))) (go_sl (pv 3)) (by rfl)) (gs_cons (g_if (PW.pt (gw_or (gt_cmp (or_notN) (go_tm (ge_fn (dvs := []) (ok_accept_by T) hr hgd (by decide) (by rfl) T.f_accept_by.g T.f_accept_by.p T.f_accept_by.b .nil pass0 (fun _ _ => .nil) (fun _ _ h => fnRun_len h) (ga_cons (go_sl (pv 1)) (ga_cons (go_sl (pv 2)) (ga_cons (go_sl (pv 3)) (ga_cons (go_sl (pv 4)) (ga_one (go_tm (ge_callTy (cr_tuple rfl) T.n_tuple bb_tuple (by rfl) (ga_one (go_sl (pv 5)))))))))))) (go_tm (ge_non)) (by rfl)) (gw_or1 (gt_cmp (or_notN) (go_tm (ge_fn (dvs := []) (ok_accept_by T) hr hgd (by decide) (by rfl) T.f_accept_by.g T.f_accept_by.p T.f_accept_by.b .nil pass0 (fun _ _ => .nil) (fun _ _ h => fnRun_len h) (ga_cons (go_sl (pv 1)) (ga_cons (go_sl (pv 2)) (ga_cons (go_sl (pv 3)) (ga_cons (go_sl (pv 4)) (ga_one (go_tm (ge_callTy (cr_tuple rfl) T.n_tuple bb_tuple (by rfl) (ga_one (go_tm (ge_sl rfl (go_sl (pv 5)) (gp_none) (gp_some (ge_name (pv 3))))))))))))))) (go_tm (ge_non)) (by rfl))))) (gs_one (g_ret (ge_bl))) (gs_nil)) <|
    gs_one (g_ret (ge_fn (dvs := []) (ok__law_same T) hr hgd (by decide) (by rfl) T.f__law_same.g T.f__law_same.p T.f__law_same.b .nil pass0 (fun _ _ => .nil) (fun _ _ h => fnRun_len h) (ga_cons (go_sl (pv 6)) (ga_one (go_tm (ge_tup (ga_cons (go_tm (ge_str)) (ga_one (go_tm (ge_bin (or_sub) (go_tm (ge_callB (cr_len rfl) T.n_len bb_len (by rfl) (ga_one (go_sl (pv 5))))) (go_sl (pv 3))))))))))))) (gs_nil)) <|
    gs_cons (g_set (i := 7) sc__law_by_holds.nd rfl (.inl rfl) (ge_callTy (cr_tuple rfl) T.n_tuple bb_tuple (by rfl) (ga_one (go_tm (ge_comp (own := [("own", 8)]) rfl sc__law_by_holds.nd (gi_range2 T.n_range (by rfl) (ga_cons (go_tm (ge_bin (or_add rfl) (go_sl (pv 2)) (go_tm (ge_int)))) (ga_one (go_tm (ge_bin (or_add rfl) (go_sl (pv 4)) (go_tm (ge_int))))))) (by exact blkOk_by (show blkC ["state", "calendar", "day", "many", "end", "there", "told", "rest", "own"] (defScope s__law_by_holds) _ _ = true from by decide +kernel)) (fun _ _ _ _ _ => gg_name sc__law_by_holds.nd rfl (by first | exact .inl rfl | exact .inr rfl) (hT := fun _ _ => wipe_set (by decide))) (fun _ _ _ _ _ => gts_one (gt_cmp (or_nin rfl hu65) (go_sl (pv 8)) (go_sl (pv 5)) (by rfl))) (fun _ _ _ _ _ => ge_name (pv 8))))))) <|
    gs_one (g_ret (ge_and (ge_fn (dvs := []) (ok__law_same T) hr hgd (by decide) (by rfl) T.f__law_same.g T.f__law_same.p T.f__law_same.b .nil pass0 (fun _ _ => .nil) (fun _ _ h => fnRun_len h) (ga_cons (go_sl (pv 6)) (ga_one (go_tm (ge_tup (ga_cons (go_tm (ge_str)) (ga_one (go_tm (ge_fn (dvs := []) (ok__law_next T) hr hgd (by decide) (by rfl) T.f__law_next.g T.f__law_next.p T.f__law_next.b .nil pass0 (fun _ _ => .nil) (fun _ _ h => fnRun_len h) (ga_cons (go_sl (pv 1)) (ga_cons (go_sl (pv 2)) (ga_one (go_sl (pv 3)))))))))))))) (ge_one (ge_cmp (or_isN) (go_tm (ge_fn (dvs := []) (ok_accept_late T) hr hgd (by decide) (by rfl) T.f_accept_late.g T.f_accept_late.p T.f_accept_late.b .nil pass0 (fun _ _ => .nil) (fun _ _ h => fnRun_len h) (ga_cons (go_sl (pv 1)) (ga_cons (go_sl (pv 2)) (ga_cons (go_sl (pv 3)) (ga_cons (go_sl (pv 4)) (ga_one (go_sl (pv 7))))))))) (go_tm (ge_non)) (by rfl)))))
theorem ok_same_days (T : Tab K mg ad fd) : GOk Pr w K mg base CX0 3 (ad 29) (fd 29) ["first", "second"] (spG K mg 2 same_daysF) :=
  fn_ok (k := 2) (N := ["first", "second", "day"]) (ps := ["first", "second"]) (b := same_daysB) T.f_same_days.f sc_same_days (by decide) fun cdv A outer s H E P hr hgd =>
    have hu1 := room_u hr 1 (by decide); have hu64 := room_u hr 64 (by decide); have hu65 := room_u hr 65 (by decide); have hu66 := room_u hr 66 (by decide)
    gs_cons (g_expr (ge_fn (dvs := []) (ok_check_calendar T) hr hgd (by decide) (by rfl) T.f_check_calendar.g T.f_check_calendar.p T.f_check_calendar.b .nil pass0 (fun _ _ => .nil) (fun _ _ h => fnRun_len h) (ga_one (go_sl (pv 0))))) <|
    gs_cons (g_expr (ge_fn (dvs := []) (ok_check_calendar T) hr hgd (by decide) (by rfl) T.f_check_calendar.g T.f_check_calendar.p T.f_check_calendar.b .nil pass0 (fun _ _ => .nil) (fun _ _ h => fnRun_len h) (ga_one (go_sl (pv 1))))) <|
    gs_cons (g_if (gt_rd (gt_cmp (or_ne rfl hu64) (go_sub rfl hu1 (go_sl (pv 0)) (go_tm (ge_int))) (go_sub rfl hu1 (go_sl (pv 1)) (go_tm (ge_int))) (by rfl))) (gs_one (g_ret (ge_bl))) (gs_nil)) <|
    gs_one (g_ret (ge_callB (cr_allP rfl rfl) T.n_all bb_all (by rfl) (ga_one (go_tm (ge_comp (own := [("day", 2)]) rfl sc_same_days.nd (gi_list rfl (ge_rd (ge_bin (or_add rfl) (go_sub rfl hu1 (go_sl (pv 0)) (go_tm (ge_int))) (go_sub rfl hu1 (go_sl (pv 1)) (go_tm (ge_int)))))) (by exact blkOk_by (show blkC ["first", "second", "day"] (defScope s_same_days) _ _ = true from by decide +kernel)) (fun _ _ _ _ _ => gg_name sc_same_days.nd rfl (by first | exact .inl rfl | exact .inr rfl) (hT := fun _ _ => wipe_set (by decide))) (fun _ _ _ _ _ => gts_nil) (fun _ _ _ _ _ => ge_cmp (or_eq rfl hu64) (go_tm (ge_fn (dvs := []) (ok_open_on T) hr hgd (by decide) (by rfl) T.f_open_on.g T.f_open_on.p T.f_open_on.b .nil pass0 (fun _ _ => .nil) (fun _ _ h => fnRun_len h) (ga_cons (go_sl (pv 0)) (ga_one (go_sl (pv 2)))))) (go_tm (ge_fn (dvs := []) (ok_open_on T) hr hgd (by decide) (by rfl) T.f_open_on.g T.f_open_on.p T.f_open_on.b .nil pass0 (fun _ _ => .nil) (fun _ _ h => fnRun_len h) (ga_cons (go_sl (pv 1)) (ga_one (go_sl (pv 2)))))) (by rfl)))))))
theorem ok_longest_rest (T : Tab K mg ad fd) : GOk Pr w K mg base CX0 3 (ad 30) (fd 30) ["calendar", "first", "last"] (spG K mg 3 longest_restF) :=
  fn_ok (k := 2) (N := ["calendar", "first", "last", "best", "begin", "day"]) (ps := ["calendar", "first", "last"]) (b := longest_restB) T.f_longest_rest.f sc_longest_rest (by decide) fun cdv A outer s H E P hr hgd =>
    have hu1 := room_u hr 1 (by decide); have hu64 := room_u hr 64 (by decide); have hu65 := room_u hr 65 (by decide); have hu66 := room_u hr 66 (by decide)
    gs_cons (g_expr (ge_fn (dvs := []) (ok_check_calendar T) hr hgd (by decide) (by rfl) T.f_check_calendar.g T.f_check_calendar.p T.f_check_calendar.b .nil pass0 (fun _ _ => .nil) (fun _ _ h => fnRun_len h) (ga_one (go_sl (pv 0))))) <|
    gs_cons (g_expr (ge_fn (dvs := []) (ok_check_day T) hr hgd (by decide) (by rfl) T.f_check_day.g T.f_check_day.p T.f_check_day.b .nil pass0 (fun _ _ => .nil) (fun _ _ h => fnRun_len h) (ga_cons (go_sl (pv 1)) (ga_one (go_tm (ge_str)))))) <|
    gs_cons (g_expr (ge_fn (dvs := []) (ok_check_day T) hr hgd (by decide) (by rfl) T.f_check_day.g T.f_check_day.p T.f_check_day.b .nil pass0 (fun _ _ => .nil) (fun _ _ h => fnRun_len h) (ga_cons (go_sl (pv 2)) (ga_one (go_tm (ge_str)))))) <|
    gs_cons (g_if (PW.pt (gw_or (gt_cmp (or_gt) (go_sl (pv 1)) (go_sl (pv 2)) (by rfl)) (gw_or1 (gt_cmp (or_gt) (go_tm (ge_bin (or_sub) (go_sl (pv 2)) (go_sl (pv 1)))) (go_tm (ge_bin (or_mul rfl) (go_tm (ge_int)) (go_tm (ge_ck T.c_MAX_ROWS rfl (by rfl))))) (by rfl))))) (gs_one (g_never)) (gs_nil)) <|
    gs_cons (g_set (i := 3) sc_longest_rest.nd rfl (.inl rfl) (ge_non)) <|
    gs_cons (g_set (i := 4) sc_longest_rest.nd rfl (.inl rfl) (ge_non)) <|
    gs_cons (g_for PassesOwn.never rfl (gi_range2 T.n_range (by rfl) (ga_cons (go_sl (pv 1)) (ga_one (go_tm (ge_bin (or_add rfl) (go_sl (pv 2)) (go_tm (ge_int))))))) (gg_name sc_longest_rest.nd rfl (by first | exact .inl rfl | exact .inr rfl)) (gs_one (g_if (gt_val (ge_fn (dvs := []) (ok_open_on T) hr hgd (by decide) (by rfl) T.f_open_on.g T.f_open_on.p T.f_open_on.b .nil pass0 (fun _ _ => .nil) (fun _ _ h => fnRun_len h) (ga_cons (go_sl (pv 0)) (ga_one (go_sl (pv 5)))))) (gs_one (g_set (i := 4) sc_longest_rest.nd rfl (.inl rfl) (ge_non))) (gs_cons (g_set (i := 4) sc_longest_rest.nd rfl (.inl rfl) (ge_if (gt_cmp (or_isN) (go_sl (pv 4)) (go_tm (ge_non)) (by rfl)) (ge_name (pv 5)) (ge_name (pv 4)))) <|
    gs_one (g_if (PW.pt (gw_or (gt_cmp (or_isN) (go_sl (pv 3)) (go_tm (ge_non)) (by rfl)) (gw_or1 (gt_cmp (or_gt) (go_tm (ge_bin (or_add rfl) (go_tm (ge_bin (or_sub) (go_sl (pv 5)) (go_sl (pv 4)))) (go_tm (ge_int)))) (go_sub rfl hu1 (go_sl (pv 3)) (go_tm (ge_int))) (by rfl))))) (gs_one (g_set (i := 3) sc_longest_rest.nd rfl (.inl rfl) (ge_tup (ga_cons (go_tm (ge_name (pv 4))) (ga_one (go_tm (ge_bin (or_add rfl) (go_tm (ge_bin (or_sub) (go_sl (pv 5)) (go_sl (pv 4)))) (go_tm (ge_int))))))))) (gs_nil)))))) <|
    gs_one (g_ret (ge_mov (pv 3)))
theorem ok__law_rest (T : Tab K mg ad fd) : GOk Pr w K mg base CX0 2 (ad 31) (fd 31) ["calendar", "first", "last"] (spG K mg 3 _law_restF) :=
  fn_ok (k := 1) (N := ["calendar", "first", "last", "best", "row", "day"]) (ps := ["calendar", "first", "last"]) (b := _law_restB) T.f__law_rest.f sc__law_rest (by decide) fun cdv A outer s H E P hr hgd =>
    have hu1 := room_u hr 1 (by decide); have hu64 := room_u hr 64 (by decide); have hu65 := room_u hr 65 (by decide); have hu66 := room_u hr 66 (by decide)
    gs_cons (g_asg (ge_tup (ga_cons (go_tm (ge_non)) (ga_one (go_tm (ge_int))))) (gg_tup rfl rfl (ggs_cons tr_true (gg_name sc__law_rest.nd rfl (by first | exact .inl rfl | exact .inr rfl)) (ggs_cons tr_true (gg_name sc__law_rest.nd rfl (by first | exact .inl rfl | exact .inr rfl)) (ggs_nil tr_true))))) <|
    gs_cons (g_for PassesOwn.never rfl (gi_range2 T.n_range (by rfl) (ga_cons (go_sl (pv 1)) (ga_one (go_tm (ge_bin (or_add rfl) (go_sl (pv 2)) (go_tm (ge_int))))))) (gg_name sc__law_rest.nd rfl (by first | exact .inl rfl | exact .inr rfl)) (gs_cons (g_set (i := 4) sc__law_rest.nd rfl (.inl rfl) (ge_if (gt_val (ge_fn (dvs := []) (ok__law_open T) hr hgd (by decide) (by rfl) T.f__law_open.g T.f__law_open.p T.f__law_open.b .nil pass0 (fun _ _ => .nil) (fun _ _ h => fnRun_len h) (ga_cons (go_sl (pv 0)) (ga_one (go_sl (pv 5)))))) (ge_int) (ge_bin (or_add rfl) (go_sl (pv 4)) (go_tm (ge_int))))) <|
    gs_one (g_if (PW.pt (gw_and (gt_cmp (or_gt) (go_sl (pv 4)) (go_tm (ge_int)) (by rfl)) (gw_and1 (PW.pt (gw_or (gt_cmp (or_isN) (go_sl (pv 3)) (go_tm (ge_non)) (by rfl)) (gw_or1 (gt_cmp (or_gt) (go_sl (pv 4)) (go_sub rfl hu1 (go_sl (pv 3)) (go_tm (ge_int))) (by rfl)))))))) (gs_one (g_set (i := 3) sc__law_rest.nd rfl (.inl rfl) (ge_tup (ga_cons (go_tm (ge_bin (or_add rfl) (go_tm (ge_bin (or_sub) (go_sl (pv 5)) (go_sl (pv 4)))) (go_tm (ge_int)))) (ga_one (go_tm (ge_name (pv 4)))))))) (gs_nil)))) <|
    gs_one (g_ret (ge_mov (pv 3)))
theorem ok__law_last (T : Tab K mg ad fd) : GOk Pr w K mg base CX0 2 (ad 32) (fd 32) ["calendar", "day", "many"] (spG K mg 3 _law_lastF) :=
  fn_ok (k := 1) (N := ["calendar", "day", "many"]) (ps := ["calendar", "day", "many"]) (b := _law_lastB) T.f__law_last.f sc__law_last (by decide) fun cdv A outer s H E P hr hgd =>
    have hu1 := room_u hr 1 (by decide); have hu64 := room_u hr 64 (by decide); have hu65 := room_u hr 65 (by decide); have hu66 := room_u hr 66 (by decide)
    gs_cons (g_while PassesOwn.never (PW.pt (gw_and (gt_cmp (or_gt) (go_sl (pv 2)) (go_tm (ge_int)) (by rfl)) (gw_and1 (gt_cmp (or_gt) (go_sl (pv 1)) (go_tm (ge_int)) (by rfl))))) (gs_cons (g_set (i := 1) sc__law_last.nd rfl (.inl rfl) (ge_bin (or_sub) (go_sl (pv 1)) (go_tm (ge_int)))) <|
    gs_one (g_set (i := 2) sc__law_last.nd rfl (.inl rfl) (ge_bin (or_sub) (go_sl (pv 2)) (go_tm (ge_callTy (cr_int) T.n_int bb_int (by rfl) (ga_one (go_tm (ge_fn (dvs := []) (ok__law_open T) hr hgd (by decide) (by rfl) T.f__law_open.g T.f__law_open.p T.f__law_open.b .nil pass0 (fun _ _ => .nil) (fun _ _ h => fnRun_len h) (ga_cons (go_sl (pv 0)) (ga_one (go_sl (pv 1))))))))))))) <|
    gs_one (g_ret (ge_if (gt_cmp (or_eq rfl hu64) (go_sl (pv 2)) (go_tm (ge_int)) (by rfl)) (ge_name (pv 1)) (ge_non)))
theorem ok__law_moved (T : Tab K mg ad fd) : GOk Pr w K mg base CX0 3 (ad 33) (fd 33) ["calendar", "day", "way"] (spG K mg 3 _law_movedF) :=
  fn_ok (k := 2) (N := ["calendar", "day", "way", "later", "sooner"]) (ps := ["calendar", "day", "way"]) (b := _law_movedB) T.f__law_moved.f sc__law_moved (by decide) fun cdv A outer s H E P hr hgd =>
    have hu1 := room_u hr 1 (by decide); have hu64 := room_u hr 64 (by decide); have hu65 := room_u hr 65 (by decide); have hu66 := room_u hr 66 (by decide)
    gs_cons (g_if (gt_val (ge_fn (dvs := []) (ok__law_open T) hr hgd (by decide) (by rfl) T.f__law_open.g T.f__law_open.p T.f__law_open.b .nil pass0 (fun _ _ => .nil) (fun _ _ h => fnRun_len h) (ga_cons (go_sl (pv 0)) (ga_one (go_sl (pv 1)))))) (gs_one (g_ret (ge_name (pv 1)))) (gs_nil)) <|
    gs_cons (g_par (i := 3) (j := 4) rfl sc__law_moved.nd rfl rfl (by decide) (by rfl) (by rfl) (ga_cons (go_tm (ge_fn (dvs := []) (ok__law_next T) hr hgd (by decide) (by rfl) T.f__law_next.g T.f__law_next.p T.f__law_next.b .nil pass0 (fun _ _ => .nil) (fun _ _ h => fnRun_len h) (ga_cons (go_sl (pv 0)) (ga_cons (go_sl (pv 1)) (ga_one (go_tm (ge_int))))))) (ga_one (go_tm (ge_fn (dvs := []) (ok__law_last T) hr hgd (by decide) (by rfl) T.f__law_last.g T.f__law_last.p T.f__law_last.b .nil pass0 (fun _ _ => .nil) (fun _ _ h => fnRun_len h) (ga_cons (go_sl (pv 0)) (ga_cons (go_sl (pv 1)) (ga_one (go_tm (ge_int)))))))))) <|
    gs_cons (g_if (PW.pt (gw_or (gt_cmp (or_eq rfl hu64) (go_sl (pv 2)) (go_tm (ge_str)) (by rfl)) (gw_or1 (gt_cmp (or_isN) (go_sl (pv 4)) (go_tm (ge_non)) (by rfl))))) (gs_one (g_ret (ge_mov (pv 3)))) (gs_nil)) <|
    gs_one (g_ret (ge_if (PW.pt (gw_or (gt_cmp (or_eq rfl hu64) (go_sl (pv 2)) (go_tm (ge_str)) (by rfl)) (gw_or1 (gt_cmp (or_lt) (go_tm (ge_bin (or_sub) (go_sl (pv 1)) (go_sl (pv 4)))) (go_tm (ge_bin (or_sub) (go_sl (pv 3)) (go_sl (pv 1)))) (by rfl))))) (ge_mov (pv 4)) (ge_mov (pv 3))))
theorem ok_due_days (T : Tab K mg ad fd) : GOk Pr w K mg base CX0 4 (ad 34) (fd 34) ["calendar", "first", "step", "count", "way"] (spG K mg 5 due_daysF) :=
  fn_ok (k := 3) (N := ["calendar", "first", "step", "count", "way", "number"]) (ps := ["calendar", "first", "step", "count", "way"]) (b := due_daysB) T.f_due_days.f sc_due_days (by decide) fun cdv A outer s H E P hr hgd =>
    have hu1 := room_u hr 1 (by decide); have hu64 := room_u hr 64 (by decide); have hu65 := room_u hr 65 (by decide); have hu66 := room_u hr 66 (by decide)
    gs_cons (g_expr (ge_fn (dvs := []) (ok_check_calendar T) hr hgd (by decide) (by rfl) T.f_check_calendar.g T.f_check_calendar.p T.f_check_calendar.b .nil pass0 (fun _ _ => .nil) (fun _ _ h => fnRun_len h) (ga_one (go_sl (pv 0))))) <|
    gs_cons (g_expr (ge_fn (dvs := []) (ok_check_day T) hr hgd (by decide) (by rfl) T.f_check_day.g T.f_check_day.p T.f_check_day.b .nil pass0 (fun _ _ => .nil) (fun _ _ h => fnRun_len h) (ga_cons (go_sl (pv 1)) (ga_one (go_tm (ge_str)))))) <|
    gs_cons (g_if (PW.pt (gw_or (gt_not (gt_val (ge_fn (dvs := []) (ok_is_integer T) hr hgd (by decide) (by rfl) T.f_is_integer.g T.f_is_integer.p T.f_is_integer.b .nil pass0 (fun _ _ => .nil) (fun _ _ h => fnRun_len h) (ga_one (go_sl (pv 2)))))) (gw_or1 (gt_not (gt_chain (or_le) (or_le) (go_tm (ge_int)) (go_sl (pv 2)) (go_tm (ge_ck T.c_MAX_TIME rfl (by rfl)))))))) (gs_one (g_never)) (gs_nil)) <|
    gs_cons (g_if (PW.pt (gw_or (gt_not (gt_val (ge_fn (dvs := []) (ok_is_integer T) hr hgd (by decide) (by rfl) T.f_is_integer.g T.f_is_integer.p T.f_is_integer.b .nil pass0 (fun _ _ => .nil) (fun _ _ h => fnRun_len h) (ga_one (go_sl (pv 3)))))) (gw_or1 (gt_not (gt_chain (or_le) (or_le) (go_tm (ge_int)) (go_sl (pv 3)) (go_tm (ge_ck T.c_MAX_ROWS rfl (by rfl)))))))) (gs_one (g_never)) (gs_nil)) <|
    gs_cons (g_if (PW.pt (gw_or (gt_not (gt_val (ge_callB (cr_isi rfl) T.n_isinstance bb_isinstance (by rfl) (ga_cons (go_sl (pv 4)) (ga_one (go_tm (ge_tyN T.n_str (by rfl) bb_str))))))) (gw_or1 (gt_cmp (or_nin rfl hu65) (go_sl (pv 4)) (go_tm (ge_ck T.c_WAYS rfl (by rfl))) (by rfl))))) (gs_one (g_never)) (gs_nil)) <|
    gs_one (g_ret (ge_callTy (cr_tuple rfl) T.n_tuple bb_tuple (by rfl) (ga_one (go_tm (ge_comp (own := [("number", 5)]) rfl sc_due_days.nd (gi_range1 T.n_range (by rfl) (ga_one (go_sl (pv 3)))) (by exact blkOk_by (show blkC ["calendar", "first", "step", "count", "way", "number"] (defScope s_due_days) _ _ = true from by decide +kernel)) (fun _ _ _ _ _ => gg_name sc_due_days.nd rfl (by first | exact .inl rfl | exact .inr rfl) (hT := fun _ _ => wipe_set (by decide))) (fun _ _ _ _ _ => gts_nil) (fun _ _ _ _ _ => ge_fn (dvs := []) (ok_moved_to T) hr hgd (by decide) (by rfl) T.f_moved_to.g T.f_moved_to.p T.f_moved_to.b .nil pass0 (fun _ _ => .nil) (fun _ _ h => fnRun_len h) (ga_cons (go_sl (pv 0)) (ga_cons (go_tm (ge_bin (or_add rfl) (go_sl (pv 1)) (go_tm (ge_bin (or_mul rfl) (go_sl (pv 2)) (go_sl (pv 5)))))) (ga_one (go_sl (pv 4)))))))))))
theorem ok_law (T : Tab K mg ad fd) : GOk Pr w K mg base CX0 5 (ad 35) (fd 35) ["script"] (spG K mg 1 lawF) :=
  fn_ok (k := 4) (N := ["script", "state", "turn", "week", "calendar", "k", "other", "unlike", "day", "many", "told", "last", "step", "way", "due", "j", "own"]) (ps := ["script"]) (b := lawB) T.f_law.f sc_law (by decide) fun cdv A outer s H E P hr hgd =>
    have hu1 := room_u hr 1 (by decide); have hu64 := room_u hr 64 (by decide); have hu65 := room_u hr 65 (by decide); have hu66 := room_u hr 66 (by decide)
    gs_cons (g_set (i := 1) sc_law.nd rfl (.inl rfl) (ge_fn (dvs := []) (ok__law_start T) hr hgd (by decide) (by rfl) T.f__law_start.g T.f__law_start.p T.f__law_start.b .nil pass0 (fun _ _ => .nil) (fun _ _ h => fnRun_len h) (ga_one (go_sl (pv 0))))) <|
    gs_cons (g_for PassesOwn.never rfl (gi_range1 T.n_range (by rfl) (ga_one (go_tm (ge_int)))) (gg_name sc_law.nd rfl (by first | exact .inl rfl | exact .inr rfl)) (gs_cons (g_set (i := 4) sc_law.nd rfl (.inr rfl) (ge_fn (dvs := []) (ok__law_calendar T) hr hgd (by decide) (by rfl) T.f__law_calendar.g T.f__law_calendar.p T.f__law_calendar.b .nil pass0 (fun _ _ => .nil) (fun _ _ h => fnRun_len h) (ga_one (go_sl (pv 1))))) <|
    gs_cons (g_for PassesOwn.never rfl (gi_range1 T.n_range (by rfl) (ga_one (go_tm (ge_int)))) (gg_name sc_law.nd rfl (by first | exact .inl rfl | exact .inr rfl)) (gs_cons (g_asg (ge_tup (ga_cons (go_tm (ge_fn (dvs := []) (ok__law_draw T) hr hgd (by decide) (by rfl) T.f__law_draw.g T.f__law_draw.p T.f__law_draw.b .nil pass0 (fun _ _ => .nil) (fun _ _ h => fnRun_len h) (ga_cons (go_sl (pv 1)) (ga_one (go_tm (ge_fn (dvs := []) (ok__law_pick T) hr hgd (by decide) (by rfl) T.f__law_pick.g T.f__law_pick.p T.f__law_pick.b .nil pass0 (fun _ _ => .nil) (fun _ _ h => fnRun_len h) (ga_cons (go_sl (pv 1)) (ga_one (go_tm (ge_lst (ga_cons (go_tm (ge_int)) (ga_cons (go_tm (ge_int)) (ga_one (go_tm (ge_int))))))))))))))) (ga_one (go_tm (ge_bin (or_add rfl) (go_tm (ge_int)) (go_tm (ge_fn (dvs := []) (ok__law_draw T) hr hgd (by decide) (by rfl) T.f__law_draw.g T.f__law_draw.p T.f__law_draw.b .nil pass0 (fun _ _ => .nil) (fun _ _ h => fnRun_len h) (ga_cons (go_sl (pv 1)) (ga_one (go_tm (ge_fn (dvs := []) (ok__law_pick T) hr hgd (by decide) (by rfl) T.f__law_pick.g T.f__law_pick.p T.f__law_pick.b .nil pass0 (fun _ _ => .nil) (fun _ _ h => fnRun_len h) (ga_cons (go_sl (pv 1)) (ga_one (go_tm (ge_lst (ga_cons (go_tm (ge_int)) (ga_cons (go_tm (ge_int)) (ga_one (go_tm (ge_int)))))))))))))))))))) (gg_tup rfl rfl (ggs_cons tr_true (gg_name sc_law.nd rfl (by first | exact .inl rfl | exact .inr rfl)) (ggs_cons tr_true (gg_name sc_law.nd rfl (by first | exact .inl rfl | exact .inr rfl)) (ggs_nil tr_true))))) <|
    gs_cons (g_set (i := 10) sc_law.nd rfl (.inl rfl) (ge_lst (ga_cons (go_tm (ge_fn (dvs := []) (ok_is_open T) hr hgd (by decide) (by rfl) T.f_is_open.g T.f_is_open.p T.f_is_open.b .nil pass0 (fun _ _ => .nil) (fun _ _ h => fnRun_len h) (ga_cons (go_sl (pv 4)) (ga_one (go_sl (pv 8)))))) (ga_cons (go_tm (ge_fn (dvs := []) (ok_add_open T) hr hgd (by decide) (by rfl) T.f_add_open.g T.f_add_open.p T.f_add_open.b .nil pass0 (fun _ _ => .nil) (fun _ _ h => fnRun_len h) (ga_cons (go_sl (pv 4)) (ga_cons (go_sl (pv 8)) (ga_one (go_sl (pv 9))))))) (ga_one (go_tm (ge_fn (dvs := []) (ok_take_open T) hr hgd (by decide) (by rfl) T.f_take_open.g T.f_take_open.p T.f_take_open.b .nil pass0 (fun _ _ => .nil) (fun _ _ h => fnRun_len h) (ga_cons (go_sl (pv 4)) (ga_cons (go_sl (pv 8)) (ga_one (go_sl (pv 9)))))))))))) <|
    gs_cons (g_if (gt_not (gt_val (ge_fn (dvs := []) (ok__law_same T) hr hgd (by decide) (by rfl) T.f__law_same.g T.f__law_same.p T.f__law_same.b .nil pass0 (fun _ _ => .nil) (fun _ _ h => fnRun_len h) (ga_cons (go_sl (pv 10)) (ga_one (go_tm (ge_lst (ga_cons (go_tm (ge_fn (dvs := []) (ok__law_open T) hr hgd (by decide) (by rfl) T.f__law_open.g T.f__law_open.p T.f__law_open.b .nil pass0 (fun _ _ => .nil) (fun _ _ h => fnRun_len h) (ga_cons (go_sl (pv 4)) (ga_one (go_sl (pv 8)))))) (ga_cons (go_tm (ge_fn (dvs := []) (ok__law_next T) hr hgd (by decide) (by rfl) T.f__law_next.g T.f__law_next.p T.f__law_next.b .nil pass0 (fun _ _ => .nil) (fun _ _ h => fnRun_len h) (ga_cons (go_sl (pv 4)) (ga_cons (go_sl (pv 8)) (ga_one (go_sl (pv 9))))))) (ga_one (go_tm (ge_fn (dvs := []) (ok__law_last T) hr hgd (by decide) (by rfl) T.f__law_last.g T.f__law_last.p T.f__law_last.b .nil pass0 (fun _ _ => .nil) (fun _ _ h => fnRun_len h) (ga_cons (go_sl (pv 4)) (ga_cons (go_sl (pv 8)) (ga_one (go_sl (pv 9))))))))))))))))) (gs_one (g_ret (ge_bl))) (gs_nil)) <|
    gs_cons (g_set (i := 11) sc_law.nd rfl (.inl rfl) (ge_bin (or_add rfl) (go_sl (pv 8)) (go_tm (ge_fn (dvs := []) (ok__law_draw T) hr hgd (by decide) (by rfl) T.f__law_draw.g T.f__law_draw.p T.f__law_draw.b .nil pass0 (fun _ _ => .nil) (fun _ _ h => fnRun_len h) (ga_cons (go_sl (pv 1)) (ga_one (go_tm (ge_fn (dvs := []) (ok__law_pick T) hr hgd (by decide) (by rfl) T.f__law_pick.g T.f__law_pick.p T.f__law_pick.b .nil pass0 (fun _ _ => .nil) (fun _ _ h => fnRun_len h) (ga_cons (go_sl (pv 1)) (ga_one (go_tm (ge_lst (ga_cons (go_tm (ge_int)) (ga_cons (go_tm (ge_int)) (ga_one (go_tm (ge_int))))))))))))))))) <|
    gs_cons (g_if (gt_not (gt_val (ge_fn (dvs := []) (ok__law_same T) hr hgd (by decide) (by rfl) T.f__law_same.g T.f__law_same.p T.f__law_same.b .nil pass0 (fun _ _ => .nil) (fun _ _ h => fnRun_len h) (ga_cons (go_tm (ge_fn (dvs := []) (ok_open_between T) hr hgd (by decide) (by rfl) T.f_open_between.g T.f_open_between.p T.f_open_between.b .nil pass0 (fun _ _ => .nil) (fun _ _ h => fnRun_len h) (ga_cons (go_sl (pv 4)) (ga_cons (go_sl (pv 8)) (ga_one (go_sl (pv 11))))))) (ga_one (go_tm (ge_callB (cr_len rfl) T.n_len bb_len (by rfl) (ga_one (go_tm (ge_comp (own := [("own", 16)]) rfl sc_law.nd (gi_range2 T.n_range (by rfl) (ga_cons (go_sl (pv 8)) (ga_one (go_sl (pv 11))))) (by exact blkOk_by (show blkC ["script", "state", "turn", "week", "calendar", "k", "other", "unlike", "day", "many", "told", "last", "step", "way", "due", "j", "own"] (defScope s_law) _ _ = true from by decide +kernel)) (fun _ _ _ _ _ => gg_name sc_law.nd rfl (by first | exact .inl rfl | exact .inr rfl) (hT := fun _ _ => wipe_set (by decide))) (fun _ _ _ _ _ => gts_one (gt_val (ge_fn (dvs := []) (ok__law_open T) hr hgd (by decide) (by rfl) T.f__law_open.g T.f__law_open.p T.f__law_open.b .nil pass0 (fun _ _ => .nil) (fun _ _ h => fnRun_len h) (ga_cons (go_sl (pv 4)) (ga_one (go_sl (pv 16))))))) (fun _ _ _ _ _ => ge_name (pv 16)))))))))))) (gs_one (g_ret (ge_bl))) (gs_nil)) <|
    gs_cons (g_if (gt_not (gt_val (ge_fn (dvs := []) (ok__law_same T) hr hgd (by decide) (by rfl) T.f__law_same.g T.f__law_same.p T.f__law_same.b .nil pass0 (fun _ _ => .nil) (fun _ _ h => fnRun_len h) (ga_cons (go_tm (ge_fn (dvs := []) (ok_longest_rest T) hr hgd (by decide) (by rfl) T.f_longest_rest.g T.f_longest_rest.p T.f_longest_rest.b .nil pass0 (fun _ _ => .nil) (fun _ _ h => fnRun_len h) (ga_cons (go_sl (pv 4)) (ga_cons (go_sl (pv 8)) (ga_one (go_sl (pv 11))))))) (ga_one (go_tm (ge_fn (dvs := []) (ok__law_rest T) hr hgd (by decide) (by rfl) T.f__law_rest.g T.f__law_rest.p T.f__law_rest.b .nil pass0 (fun _ _ => .nil) (fun _ _ h => fnRun_len h) (ga_cons (go_sl (pv 4)) (ga_cons (go_sl (pv 8)) (ga_one (go_sl (pv 11)))))))))))) (gs_one (g_ret (ge_bl))) (gs_nil)) <|
    gs_cons (g_asg (ge_tup (ga_cons (go_tm (ge_bin (or_add rfl) (go_tm (ge_int)) (go_tm (ge_fn (dvs := []) (ok__law_draw T) hr hgd (by decide) (by rfl) T.f__law_draw.g T.f__law_draw.p T.f__law_draw.b .nil pass0 (fun _ _ => .nil) (fun _ _ h => fnRun_len h) (ga_cons (go_sl (pv 1)) (ga_one (go_tm (ge_fn (dvs := []) (ok__law_pick T) hr hgd (by decide) (by rfl) T.f__law_pick.g T.f__law_pick.p T.f__law_pick.b .nil pass0 (fun _ _ => .nil) (fun _ _ h => fnRun_len h) (ga_cons (go_sl (pv 1)) (ga_one (go_tm (ge_lst (ga_cons (go_tm (ge_int)) (ga_one (go_tm (ge_int)))))))))))))))) (ga_one (go_tm (ge_fn (dvs := []) (ok__law_pick T) hr hgd (by decide) (by rfl) T.f__law_pick.g T.f__law_pick.p T.f__law_pick.b .nil pass0 (fun _ _ => .nil) (fun _ _ h => fnRun_len h) (ga_cons (go_sl (pv 1)) (ga_one (go_tm (ge_lst (ga_cons (go_tm (ge_str)) (ga_cons (go_tm (ge_str)) (ga_one (go_tm (ge_str)))))))))))))) (gg_tup rfl rfl (ggs_cons tr_true (gg_name sc_law.nd rfl (by first | exact .inl rfl | exact .inr rfl)) (ggs_cons tr_true (gg_name sc_law.nd rfl (by first | exact .inl rfl | exact .inr rfl)) (ggs_nil tr_true))))) <|
    gs_cons (g_set (i := 14) sc_law.nd rfl (.inl rfl) (ge_callTy (cr_tuple rfl) T.n_tuple bb_tuple (by rfl) (ga_one (go_tm (ge_comp (own := [("j", 15)]) rfl sc_law.nd (gi_range1 T.n_range (by rfl) (ga_one (go_tm (ge_bin (or_mod) (go_tm (ge_callTy (cr_int) T.n_int bb_int (by rfl) (ga_one (go_sl (pv 9))))) (go_tm (ge_int)))))) (by exact blkOk_by (show blkC ["script", "state", "turn", "week", "calendar", "k", "other", "unlike", "day", "many", "told", "last", "step", "way", "due", "j", "own"] (defScope s_law) _ _ = true from by decide +kernel)) (fun _ _ _ _ _ => gg_name sc_law.nd rfl (by first | exact .inl rfl | exact .inr rfl) (hT := fun _ _ => wipe_set (by decide))) (fun _ _ _ _ _ => gts_nil) (fun _ _ _ _ _ => ge_fn (dvs := []) (ok__law_moved T) hr hgd (by decide) (by rfl) T.f__law_moved.g T.f__law_moved.p T.f__law_moved.b .nil pass0 (fun _ _ => .nil) (fun _ _ h => fnRun_len h) (ga_cons (go_sl (pv 4)) (ga_cons (go_tm (ge_bin (or_add rfl) (go_sl (pv 8)) (go_tm (ge_bin (or_mul rfl) (go_sl (pv 12)) (go_sl (pv 15)))))) (ga_one (go_sl (pv 13))))))))))) <|
    gs_cons (g_if (gt_not (gt_val (ge_fn (dvs := []) (ok__law_same T) hr hgd (by decide) (by rfl) T.f__law_same.g T.f__law_same.p T.f__law_same.b .nil pass0 (fun _ _ => .nil) (fun _ _ h => fnRun_len h) (ga_cons (go_tm (ge_lst (ga_cons (go_tm (ge_fn (dvs := []) (ok_moved T) hr hgd (by decide) (by rfl) T.f_moved.g T.f_moved.p T.f_moved.b .nil pass0 (fun _ _ => .nil) (fun _ _ h => fnRun_len h) (ga_cons (go_sl (pv 4)) (ga_cons (go_sl (pv 8)) (ga_one (go_sl (pv 13))))))) (ga_one (go_tm (ge_fn (dvs := []) (ok_due_days T) hr hgd (by decide) (by rfl) T.f_due_days.g T.f_due_days.p T.f_due_days.b .nil pass0 (fun _ _ => .nil) (fun _ _ h => fnRun_len h) (ga_cons (go_sl (pv 4)) (ga_cons (go_sl (pv 8)) (ga_cons (go_sl (pv 12)) (ga_cons (go_tm (ge_callB (cr_len rfl) T.n_len bb_len (by rfl) (ga_one (go_sl (pv 14))))) (ga_one (go_sl (pv 13))))))))))))) (ga_one (go_tm (ge_lst (ga_cons (go_tm (ge_fn (dvs := []) (ok__law_moved T) hr hgd (by decide) (by rfl) T.f__law_moved.g T.f__law_moved.p T.f__law_moved.b .nil pass0 (fun _ _ => .nil) (fun _ _ h => fnRun_len h) (ga_cons (go_sl (pv 4)) (ga_cons (go_sl (pv 8)) (ga_one (go_sl (pv 13))))))) (ga_one (go_tm (ge_name (pv 14)))))))))))) (gs_one (g_ret (ge_bl))) (gs_nil)) <|
    gs_one (g_if (gt_not (gt_val (ge_fn (dvs := []) (ok__law_by_holds T) hr hgd (by decide) (by rfl) T.f__law_by_holds.g T.f__law_by_holds.p T.f__law_by_holds.b .nil pass0 (fun _ _ => .nil) (fun _ _ h => fnRun_len h) (ga_cons (go_sl (pv 1)) (ga_cons (go_sl (pv 4)) (ga_one (go_sl (pv 8)))))))) (gs_one (g_ret (ge_bl))) (gs_nil)))) <|
    gs_cons (g_set (i := 6) sc_law.nd rfl (.inr rfl) (ge_fn (dvs := []) (ok__law_other T) hr hgd (by decide) (by rfl) T.f__law_other.g T.f__law_other.p T.f__law_other.b .nil pass0 (fun _ _ => .nil) (fun _ _ h => fnRun_len h) (ga_cons (go_sl (pv 1)) (ga_one (go_sl (pv 4)))))) <|
    gs_cons (g_setLc (own := [("day", 8)]) rfl sc_law.nd rfl (by rfl) (sw_true rfl (by rfl) (by rfl) (by decide +kernel)) (gi_range1 T.n_range (by rfl) (ga_one (go_tm (ge_int)))) (by exact blkOk_by (show blkC ["script", "state", "turn", "week", "calendar", "k", "other", "unlike", "day", "many", "told", "last", "step", "way", "due", "j", "own"] (defScope s_law) _ _ = true from by decide +kernel)) (fun _ _ _ _ _ => gg_name sc_law.nd rfl (by first | exact .inl rfl | exact .inr rfl) (hT := fun _ _ => wipe_set (by decide))) (fun _ _ _ _ _ => gts_one (gt_cmp (or_ne rfl hu64) (go_tm (ge_fn (dvs := []) (ok__law_open T) hr hgd (by decide) (by rfl) T.f__law_open.g T.f__law_open.p T.f__law_open.b .nil pass0 (fun _ _ => .nil) (fun _ _ h => fnRun_len h) (ga_cons (go_sl (pv 4)) (ga_one (go_sl (pv 8)))))) (go_tm (ge_fn (dvs := []) (ok__law_open T) hr hgd (by decide) (by rfl) T.f__law_open.g T.f__law_open.p T.f__law_open.b .nil pass0 (fun _ _ => .nil) (fun _ _ h => fnRun_len h) (ga_cons (go_sl (pv 6)) (ga_one (go_sl (pv 8)))))) (by rfl))) (fun _ _ _ _ _ => ge_name (pv 8))) <|
    gs_cons (g_set (i := 7) sc_law.nd rfl (.inl rfl) (ge_bin (or_add rfl) (go_sl (pv 7)) (go_tm (ge_comp (own := [("day", 8)]) rfl sc_law.nd (gi_range2 T.n_range (by rfl) (ga_cons (go_tm (ge_int)) (ga_one (go_tm (ge_int))))) (by exact blkOk_by (show blkC ["script", "state", "turn", "week", "calendar", "k", "other", "unlike", "day", "many", "told", "last", "step", "way", "due", "j", "own"] (defScope s_law) _ _ = true from by decide +kernel)) (fun _ _ _ _ _ => gg_name sc_law.nd rfl (by first | exact .inl rfl | exact .inr rfl) (hT := fun _ _ => wipe_set (by decide))) (fun _ _ _ _ _ => gts_one (gt_cmp (or_ne rfl hu64) (go_tm (ge_fn (dvs := []) (ok__law_open T) hr hgd (by decide) (by rfl) T.f__law_open.g T.f__law_open.p T.f__law_open.b .nil pass0 (fun _ _ => .nil) (fun _ _ h => fnRun_len h) (ga_cons (go_sl (pv 4)) (ga_one (go_sl (pv 8)))))) (go_tm (ge_fn (dvs := []) (ok__law_open T) hr hgd (by decide) (by rfl) T.f__law_open.g T.f__law_open.p T.f__law_open.b .nil pass0 (fun _ _ => .nil) (fun _ _ h => fnRun_len h) (ga_cons (go_sl (pv 6)) (ga_one (go_sl (pv 8)))))) (by rfl))) (fun _ _ _ _ _ => ge_name (pv 8)))))) <|
    gs_one (g_if (gt_not (gt_val (ge_fn (dvs := []) (ok__law_same T) hr hgd (by decide) (by rfl) T.f__law_same.g T.f__law_same.p T.f__law_same.b .nil pass0 (fun _ _ => .nil) (fun _ _ h => fnRun_len h) (ga_cons (go_tm (ge_fn (dvs := []) (ok_same_days T) hr hgd (by decide) (by rfl) T.f_same_days.g T.f_same_days.p T.f_same_days.b .nil pass0 (fun _ _ => .nil) (fun _ _ h => fnRun_len h) (ga_cons (go_sl (pv 4)) (ga_one (go_sl (pv 6)))))) (ga_one (go_tm (ge_cmp (or_eq rfl hu64) (go_sl (pv 7)) (go_tm (ge_lst (ga_nil))) (by rfl)))))))) (gs_one (g_ret (ge_bl))) (gs_nil)))) <|
    gs_cons (g_set (i := 3) sc_law.nd rfl (.inl rfl) (ge_tup (ga_cons (go_tm (ge_tup (ga_cons (go_tm (ge_int)) (ga_one (go_tm (ge_int)))))) (ga_one (go_tm (ge_tup (ga_nil))))))) <|
    gs_one (g_ret (ge_fn (dvs := []) (ok__law_same T) hr hgd (by decide) (by rfl) T.f__law_same.g T.f__law_same.p T.f__law_same.b .nil pass0 (fun _ _ => .nil) (fun _ _ h => fnRun_len h) (ga_cons (go_tm (ge_lst (ga_cons (go_tm (ge_fn (dvs := []) (ok_add_open T) hr hgd (by decide) (by rfl) T.f_add_open.g T.f_add_open.p T.f_add_open.b .nil pass0 (fun _ _ => .nil) (fun _ _ h => fnRun_len h) (ga_cons (go_sl (pv 3)) (ga_cons (go_tm (ge_int)) (ga_one (go_tm (ge_int))))))) (ga_cons (go_tm (ge_fn (dvs := []) (ok_open_between T) hr hgd (by decide) (by rfl) T.f_open_between.g T.f_open_between.p T.f_open_between.b .nil pass0 (fun _ _ => .nil) (fun _ _ h => fnRun_len h) (ga_cons (go_sl (pv 3)) (ga_cons (go_tm (ge_int)) (ga_one (go_tm (ge_int))))))) (ga_one (go_tm (ge_fn (dvs := []) (ok_moved T) hr hgd (by decide) (by rfl) T.f_moved.g T.f_moved.p T.f_moved.b .nil pass0 (fun _ _ => .nil) (fun _ _ h => fnRun_len h) (ga_cons (go_tm (ge_tup (ga_cons (go_tm (ge_tup (ga_nil))) (ga_one (go_tm (ge_tup (ga_one (go_tm (ge_int))))))))) (ga_cons (go_tm (ge_int)) (ga_one (go_tm (ge_str)))))))))))) (ga_one (go_tm (ge_lst (ga_cons (go_tm (ge_int)) (ga_cons (go_tm (ge_int)) (ga_one (go_tm (ge_int)))))))))))
/-! the end -/
end Xk36

/-! k36: days of business: plain mathematics. -/
namespace Xk36
open GX
abbrev Cal := List Int × List Int
def isOpen (c : Cal) (d : Int) : Bool := !decide (d % 7 ∈ c.1) && !decide (d ∈ c.2)
structure CalOk (c : Cal) : Prop where
  r1 : c.1.Pairwise (· < ·)
  r2 : ∀ x ∈ c.1, 0 ≤ x ∧ x ≤ 6
  r3 : c.1.length ≤ 6
  h1 : c.2.Pairwise (· < ·)
  h2 : ∀ x ∈ c.2, 0 ≤ x ∧ x ≤ 100000
  h3 : c.2.length ≤ 60
/-- open days ahead of day n -/
def cnt (c : Cal) : Nat → Int
  | 0 => 0
  | n + 1 => cnt c n + (if isOpen c n then 1 else 0)
theorem cnt_succ (c : Cal) (n : Nat) : cnt c (n + 1) = cnt c n + (if isOpen c n then 1 else 0) := rfl
theorem cnt_le (c : Cal) {m n : Nat} (h : m ≤ n) : cnt c m ≤ cnt c n ∧ cnt c n ≤ cnt c m + (n - m : Nat) := by
  induction n with
  | zero =>
    have : m = 0 := by omega
    subst this
    simp
  | succ n ih =>
    by_cases e : m = n + 1
    · subst e; simp
    · have := ih (by omega)
      rw [cnt_succ]
      have : (n + 1 - m : Nat) = (n - m) + 1 := by omega
      rw [this]
      split <;> omega
theorem cnt_nn (c : Cal) (n : Nat) : 0 ≤ cnt c n := (cnt_le c (Nat.zero_le n)).1
/-- the number of x with p among 0 .. n-1 -/
def num (p : Nat → Bool) : Nat → Int
  | 0 => 0
  | n + 1 => num p n + (if p n then 1 else 0)
theorem num_range (p : Nat → Bool) : ∀ n : Nat, (((List.range n).filter p).length : Int) = num p n
  | 0 => rfl
  | n + 1 => by
    rw [List.range_succ, List.filter_append, List.length_append, num, ← num_range p n]
    by_cases h : p n <;> simp [h]
/-- plain weekdays ahead of day d -/
def wk (c : Cal) (d : Nat) : Int := ((d / 7 : Nat) : Int) * (7 - c.1.length) + num (fun i : Nat => !decide ((i : Int) ∈ c.1)) (d % 7)
theorem num_le (p : Nat → Bool) : ∀ n, num p n ≤ n ∧ 0 ≤ num p n
  | 0 => by simp [num]
  | n + 1 => by
    have := num_le p n
    rw [num]
    split <;> (constructor <;> push_cast <;> omega)
theorem num_mem {l : List Int} (h1 : l.Pairwise (· < ·)) : ∀ n : Nat, (∀ x ∈ l, 0 ≤ x ∧ x < n) → num (fun i : Nat => decide ((i : Int) ∈ l)) n = l.length := fun n h => by
  rw [← num_range]
  have e : ((List.range n).filter fun i : Nat => decide ((i : Int) ∈ l)).map (fun i : Nat => (i : Int)) = l := by
    refine eq_of_lt ?_ h1 fun j => ?_
    · refine List.Pairwise.map _ (R := fun a b : Nat => a < b) (fun a b h => by omega) ?_
      exact List.Pairwise.filter _ List.pairwise_lt_range
    · simp only [List.mem_map, List.mem_filter, List.mem_range, decide_eq_true_eq]
      constructor
      · rintro ⟨i, ⟨_, hm⟩, rfl⟩; exact hm
      · intro hj
        have := h j hj
        refine ⟨j.toNat, ⟨by omega, ?_⟩, by omega⟩
        have : ((j.toNat : Nat) : Int) = j := by omega
        rw [this]; exact hj
  have := congrArg List.length e
  rw [List.length_map] at this
  omega
theorem num_irng (l : List Int) (n : Nat) : (((irng 0 (n : Int)).filter fun i => !decide (i ∈ l)).length : Int) = num (fun i : Nat => !decide ((i : Int) ∈ l)) n := by
  rw [← num_range]
  have e : ((n : Int) - 0).toNat = n := by omega
  simp only [irng, e, List.filter_map, List.length_map]
  congr 2
  refine List.filter_congr fun i _ => ?_
  simp
theorem num_not (p : Nat → Bool) : ∀ n, num (fun i => !p i) n = n - num p n
  | 0 => rfl
  | n + 1 => by
    rw [num, num, num_not p n]
    cases p n <;> simp <;> omega
theorem wk_succ {c : Cal} (k : CalOk c) (d : Nat) : wk c (d + 1) = wk c d + (if ((d : Int) % 7 ∈ c.1) then 0 else 1) := by
  unfold wk
  have hd : (d : Int) % 7 = ((d % 7 : Nat) : Int) := by omega
  rw [hd]
  by_cases h : d % 7 = 6
  · have e1 : (d + 1) / 7 = d / 7 + 1 := by omega
    have e2 : (d + 1) % 7 = 0 := by omega
    rw [e1, e2, h]
    have full : num (fun i : Nat => !decide ((i : Int) ∈ c.1)) 7 = 7 - c.1.length := by
      rw [num_not, num_mem k.r1 7 fun x hx => by have := k.r2 x hx; omega]
      rfl
    have s6 : num (fun i : Nat => !decide ((i : Int) ∈ c.1)) 7 = num (fun i : Nat => !decide ((i : Int) ∈ c.1)) 6 + (if ((6 : Nat) : Int) ∈ c.1 then 0 else 1) := by
      rw [num]
      by_cases hm : ((6 : Nat) : Int) ∈ c.1 <;> simp [hm]
    rw [full] at s6
    have : (((d / 7 + 1 : Nat)) : Int) * (7 - (c.1.length : Int)) = ((d / 7 : Nat) : Int) * (7 - c.1.length) + (7 - c.1.length) := by
      push_cast
      rw [Int.add_mul, Int.one_mul]
    rw [this, num]
    omega
  · have e1 : (d + 1) / 7 = d / 7 := by omega
    have e2 : (d + 1) % 7 = d % 7 + 1 := by omega
    rw [e1, e2, num]
    generalize hz : d % 7 = z
    by_cases hm : (z : Int) ∈ c.1 <;> simp [hm] <;> omega
/-- holidays ahead of day d that are no days of rest -/
def hol (c : Cal) (d : Nat) : Int := ((c.2.filter fun x : Int => decide (x < (d : Int)) && !decide (x % 7 ∈ c.1)).length : Nat)
theorem filter_succ {l : List Int} (h1 : l.Pairwise (· < ·)) (p : Int → Bool) (d : Nat) : (((l.filter fun x => decide (x < ((d + 1 : Nat) : Int)) && p x).length : Nat) : Int) = ((l.filter fun x => decide (x < (d : Int)) && p x).length : Nat) + (if (d : Int) ∈ l ∧ p d then 1 else 0) := by
  induction l with
  | nil => simp
  | cons x r ih =>
    obtain ⟨p1, p2⟩ := List.pairwise_cons.mp h1
    have ih := ih p2
    simp only [List.filter_cons]
    by_cases e : x = d
    · subst e
      have nm : ¬ (d : Int) ∈ r := fun hm => by have := p1 _ hm; omega
      have f1 : r.filter (fun x => decide (x < ((d + 1 : Nat) : Int)) && p x) = [] := by
        rw [List.filter_eq_nil_iff]
        intro y hy
        have := p1 y hy
        simp
        omega
      have f2 : r.filter (fun x => decide (x < (d : Int)) && p x) = [] := by
        rw [List.filter_eq_nil_iff]
        intro y hy
        have := p1 y hy
        simp
        omega
      rw [f1, f2]
      have hlt : (d : Int) < (d : Int) + 1 := by omega
      by_cases hp : p d <;> simp [hp, hlt]
    · have e1 : decide (x < ((d + 1 : Nat) : Int)) = decide (x < (d : Int)) := by
        by_cases hx : x < (d : Int)
        · simp [hx]; omega
        · simp [hx]; omega
      rw [e1]
      have e2 : ((d : Int) ∈ x :: r ∧ p d = true) ↔ ((d : Int) ∈ r ∧ p d = true) := by
        simp [List.mem_cons, show ¬ (d : Int) = x from fun h => e h.symm]
      simp only [e2]
      split <;> (try simp only [List.length_cons]) <;> omega
theorem hol_succ {c : Cal} (k : CalOk c) (d : Nat) : hol c (d + 1) = hol c d + (if (d : Int) ∈ c.2 ∧ ¬ ((d : Int) % 7 ∈ c.1) then 1 else 0) := by
  unfold hol
  rw [filter_succ k.h1 (fun x => !decide (x % 7 ∈ c.1)) d]
  simp
theorem ahead_eq {c : Cal} (k : CalOk c) : ∀ d : Nat, wk c d - hol c d = cnt c d
  | 0 => by
    have : c.2.filter (fun x => decide (x < ((0 : Nat) : Int)) && !decide (x % 7 ∈ c.1)) = [] := by
      rw [List.filter_eq_nil_iff]
      intro y hy
      have := k.h2 y hy
      simp
      omega
    have h0 : hol c 0 = 0 := by unfold hol; rw [this]; rfl
    rw [h0]
    simp [wk, num, cnt]
  | d + 1 => by
    rw [wk_succ k, hol_succ k, cnt_succ, ← ahead_eq k d]
    unfold isOpen
    by_cases a : (d : Int) % 7 ∈ c.1 <;> by_cases b : (d : Int) ∈ c.2 <;> simp [a, b] <;> omega
/-! ### the day by which g open days are full -/
structure Least (c : Cal) (g : Int) (d : Nat) : Prop where
  up : g ≤ cnt c (d + 1)
  lo : ∀ i < d, cnt c (i + 1) < g
theorem Least.uniq {c : Cal} {g : Int} {d e : Nat} (a : Least c g d) (b : Least c g e) : d = e := by
  rcases Nat.lt_trichotomy d e with h | h | h
  · have := b.lo d h; have := a.up; omega
  · exact h
  · have := a.lo e h; have := b.up; omega
theorem cnt_week {c : Cal} (k : CalOk c) (n : Nat) : (n : Int) - c.2.length ≤ cnt c (7 * n) := by
  rw [← ahead_eq k]
  have h1 : hol c (7 * n) ≤ c.2.length := by
    unfold hol
    have := List.length_filter_le (fun x => decide (x < ((7 * n : Nat) : Int)) && !decide (x % 7 ∈ c.1)) c.2
    omega
  have h2 : (n : Int) ≤ wk c (7 * n) := by
    unfold wk
    have e1 : 7 * n / 7 = n := by omega
    have e2 : 7 * n % 7 = 0 := by omega
    rw [e1, e2, num]
    have := k.r3
    have : (1 : Int) ≤ 7 - c.1.length := by omega
    have := Int.mul_le_mul_of_nonneg_left this (show (0 : Int) ≤ (n : Int) by omega)
    omega
  omega
end Xk36

namespace Xk36
open GX
theorem Least.mono {c : Cal} {g h : Int} {d e : Nat} (a : Least c g d) (b : Least c h e) (gh : g ≤ h) : d ≤ e := by
  rcases Nat.lt_or_ge e d with q | q
  · have := a.lo e q; have := b.up; omega
  · exact q
theorem least_ex {c : Cal} (g : Int) : ∀ n : Nat, g ≤ cnt c (n + 1) → ∃ d, d ≤ n ∧ Least c g d
  | 0, h => ⟨0, Nat.le_refl _, h, fun i hi => by omega⟩
  | n + 1, h => by
    by_cases k : g ≤ cnt c (n + 1)
    · obtain ⟨d, h1, h2⟩ := least_ex g n k
      exact ⟨d, by omega, h2⟩
    · refine ⟨n + 1, Nat.le_refl _, h, fun i hi => ?_⟩
      have := (cnt_le c (show i + 1 ≤ n + 1 by omega)).1
      omega
open Classical in
noncomputable def lst (c : Cal) (g : Int) : Nat := if h : ∃ d, Least c g d then h.choose else 0
theorem cnt_far {c : Cal} (k : CalOk c) (g : Int) : g ≤ cnt c (7 * (g.toNat + 60)) := by
  have := cnt_week k (g.toNat + 60)
  have := k.h3
  omega
theorem lst_ok {c : Cal} (k : CalOk c) (g : Int) : Least c g (lst c g) ∧ lst c g ≤ 7 * (g.toNat + 60) := by
  have h1 := cnt_far k g
  have h2 := (cnt_le c (show 7 * (g.toNat + 60) ≤ 7 * (g.toNat + 60) + 1 by omega)).1
  obtain ⟨d, e1, e2⟩ := least_ex (c := c) g (7 * (g.toNat + 60)) (by omega)
  have hx : ∃ d, Least c g d := ⟨d, e2⟩
  have e3 : Least c g (lst c g) := by unfold lst; rw [dif_pos hx]; exact hx.choose_spec
  exact ⟨e3, by rw [e3.uniq e2]; exact e1⟩
theorem lst_eq {c : Cal} {g : Int} {d : Nat} (h : Least c g d) : lst c g = d := by
  have hx : ∃ d, Least c g d := ⟨d, h⟩
  unfold lst
  rw [dif_pos hx]
  exact hx.choose_spec.uniq h
theorem Least.full {c : Cal} {g : Int} {d : Nat} (h : Least c g d) (hg : 1 ≤ g) : cnt c (d + 1) = g ∧ isOpen c d = true := by
  have h1 := h.up
  rw [cnt_succ] at h1 ⊢
  rcases d with _ | d
  · have e : cnt c 0 = 0 := rfl
    rw [e] at h1 ⊢
    split at h1
    · rename_i h; simp only [Int.zero_add]; exact ⟨by simp only [h, if_true]; omega, h⟩
    · omega
  · have := h.lo d (by omega)
    split at h1
    · rename_i h; exact ⟨by simp only [h, if_true]; omega, h⟩
    · omega
/-- how far a goal is from an end -/
theorem lst_le {c : Cal} (k : CalOk c) (g : Int) (n : Nat) : lst c g ≤ n ↔ g ≤ cnt c (n + 1) := by
  have h := (lst_ok k g).1
  constructor
  · intro q
    have := h.up
    have := (cnt_le c (show lst c g + 1 ≤ n + 1 by omega)).1
    omega
  · intro q
    rcases Nat.lt_or_ge n (lst c g) with r | r
    · have := h.lo n r; omega
    · exact r
theorem filter_cnt (c : Cal) (a : Nat) : ∀ n : Nat, (((irng (a : Int) ((a + n : Nat) : Int)).filter fun d => isOpen c d).length : Int) = cnt c (a + n) - cnt c a
  | 0 => by rw [irng_nil (by omega)]; simp
  | n + 1 => by
    have e : ((a + (n + 1) : Nat) : Int) = ((a + n : Nat) : Int) + 1 := by omega
    rw [e, irng_snoc (by omega), List.filter_append, List.length_append]
    have ih := filter_cnt c a n
    have e2 : a + (n + 1) = (a + n) + 1 := by omega
    rw [e2, cnt_succ]
    cases h : isOpen c ((a + n : Nat) : Int)
    · simp only [h, List.filter_cons, List.filter_nil, if_false, Bool.false_eq_true, List.length_nil]
      omega
    · simp only [h, List.filter_cons, List.filter_nil, if_true, List.length_cons, List.length_nil]
      omega
theorem filter_cntI (c : Cal) {a b : Int} (h0 : 0 ≤ a) (h : a ≤ b) : (((irng a b).filter fun d => isOpen c d).length : Int) = cnt c b.toNat - cnt c a.toNat := by
  have := filter_cnt c a.toNat (b - a).toNat
  have e1 : ((a.toNat : Nat) : Int) = a := by omega
  have e2 : ((a.toNat + (b - a).toNat : Nat) : Int) = b := by omega
  have e3 : a.toNat + (b - a).toNat = b.toNat := by omega
  rw [e1, e2, e3] at this
  exact this
theorem irng_lt {a b : Int} : (irng a b).Pairwise (· < ·) := by
  unfold irng
  refine List.Pairwise.map _ (R := fun a b : Nat => a < b) (fun a b h => by omega) ?_
  exact List.pairwise_lt_range
end Xk36

namespace Xk36
open PySem PySem.Spec PyProof.Rows L2 GX
/-! the law's draws -/
structure St where
  cells : List Int
  pos : Nat
  cur : Int
  seed : Int
def St.enc (s : St) : PV := .lst true [.lst true (s.cells.map .int), .int s.cur, .int s.pos, .int s.seed]
@[simp] theorem St.enc_pure (s : St) : s.enc.pure = false := by simp [St.enc]
def St.ok (s : St) : Prop := s.pos ≤ s.cells.length
theorem run_start (ns : List Int) : ∃ s : St, s.ok ∧ _law_startF [.val (.zls (ns.map .int))] = some (s.enc, [.un]) := by
  have h : ∀ Q : PV × List Slot → Prop, (∀ s : St, s.ok → Q (s.enc, [.un])) → W (_law_startF [.val (.zls (ns.map .int))]) (Q := ⟨Q⟩) := fun Q hQ => by
    simp [_law_startF, W_fn, _law_startB, _law_start_l1]
    refine W_forL (α := Int) (fun p q ρ => ∃ (i : Int) (y : Slot), y.loc = true ∧ ρ = [.val (.zls (ns.map .int)), .val (.int i), y]) ⟨7, .un, rfl, rfl⟩ (fun p x q ρ e ⟨i, y, hy, hr⟩ => ?_) fun ρ ⟨i, y, hy, hr⟩ => ?_
    · subst hr
      have hm : MulOk i 48271 := mulOk_r (by decide)
      simp [_law_start_l1b, hy, hm]
    · subst hr
      have := hQ ⟨ns, 0, 0, i⟩ (Nat.zero_le _)
      simpa [St.enc] using this
  obtain ⟨a, e, s, h1, h2⟩ := h (fun r => ∃ s : St, s.ok ∧ r = (s.enc, [.un])) fun s h => ⟨s, h, rfl⟩
  exact ⟨s, h1, by rw [e, h2]⟩
theorem run_draw {s : St} (hs : s.ok) (n : Int) (h0 : 0 < n) (h1 : n < 18446744073709551616) : ∃ (s' : St) (v : Int), s'.ok ∧ (0 ≤ v ∧ v < n) ∧ _law_drawF [.ref s.enc, .val (.int n)] = some (.int v, [.ref s'.enc, .un]) := by
  have h : ∀ Q : PV × List Slot → Prop, (∀ (s : St) (v : Int), s.ok → (0 ≤ v ∧ v < n) → Q (.int v, [.ref s.enc, .un])) → W (_law_drawF [.ref s.enc, .val (.int n)]) (Q := ⟨Q⟩) := fun Q hQ => by
    have hd : DivOk n := divOk h0 h1
    have hm : MulOk s.seed 48271 := mulOk_r (by decide)
    have hv : ∀ i : Int, 0 ≤ i % n ∧ i % n < n := fun i => ⟨Int.emod_nonneg _ (by omega), Int.emod_lt_of_pos _ h0⟩
    have d13 : DivOk 13 := by decide
    have tail : ∀ (c : List Int) (q : Nat) (u z : Int), q ≤ c.length → Q (.int (u % n), [.ref (.lst true [.lst true (c.map .int), .int (u / n), .int q, .int z]), .un]) := fun c q u z hq => hQ ⟨c, q, u / n, z⟩ _ hq (hv u)
    simp [_law_drawF, W_fn, _law_drawB, St.enc, hd, hm, h0, d13]
    refine Br.mk (fun hc => ?_) fun hc => ?_
    · simp
      refine Br.mk (fun hp => ?_) fun hp => ?_
      · simp [hm, d13, h0]
        exact hQ ⟨s.cells, s.pos, s.cur, (s.seed * 48271 + 69621) % 2147483629⟩ _ hs (hv _)
      · simp [hc, atI_pos (xs := s.cells) (i := (s.pos : Int)) (by omega) (by omega), h0, hd]
        exact tail s.cells (s.pos + 1) _ s.seed (by omega)
    · simp [hc, h0, hd]
      exact tail s.cells s.pos s.cur s.seed hs
  obtain ⟨a, e, s, v, h1, h2, h3⟩ := h (fun r => ∃ (s : St) (v : Int), s.ok ∧ (0 ≤ v ∧ v < n) ∧ r = (.int v, [.ref s.enc, .un])) fun s v h h' => ⟨s, v, h, h', rfl⟩
  exact ⟨s, v, h1, h2, by rw [e, h3]⟩
/-- a pure item of a list, drawn -/
theorem run_pick {s : St} (hs : s.ok) {o : Bool} {xs : List PV} (h0 : xs ≠ []) (hp : ∀ x ∈ xs, x.pure = true) (hl : xs.length < 1000000) : ∃ (s' : St) (v : PV), s'.ok ∧ v ∈ xs ∧ _law_pickF [.ref s.enc, .val (.lst o xs)] = some (v, [.ref s'.enc, .un]) := by
  have hl0 : 0 < xs.length := List.length_pos_iff.mpr h0
  obtain ⟨s', v, a1, a2, a3⟩ := run_draw hs (xs.length : Int) (by omega) (by omega)
  have hx : xs[v.toNat]'(by omega) ∈ xs := List.getElem_mem _
  refine ⟨s', xs[v.toNat]'(by omega), a1, hx, eq_W ?_⟩
  have ha := atI_pos a2.1 a2.2
  cases o <;> simp [_law_pickF, W_fn, _law_pickB, a3, ha, hp _ hx]
theorem run_same {s1 s2 : Slot} {a b : PV} (h1 : s1.get = some a) (h2 : s2.get = some b) (h : Alike a b) : _law_sameF [s1, s2] = some (.bl true, [outS s1, outS s2]) := by
  obtain ⟨x, e1, e2⟩ := h.repr
  have e3 := h.peq
  apply eq_W
  simp [_law_sameF, W_fn, _law_sameB, h1, h2, e1, e2, e3]
end Xk36

namespace Xk36
open PySem PySem.Spec PyProof.Rows L2 GX
def enc (c : Cal) : PV := .tup [.tup (c.1.map .int), .tup (c.2.map .int)]
@[simp] theorem enc_pure (c : Cal) : (enc c).pure = true := by simp [enc]
@[simp] theorem enc0 (c : Cal) : pgetI (enc c) (.int 0) = some (.tup (c.1.map .int)) := by simp [enc]
@[simp] theorem enc1 (c : Cal) : pgetI (enc c) (.int 1) = some (.tup (c.2.map .int)) := by simp [enc]
theorem run_open_on (c : Cal) (d : Int) : open_onF [.val (enc c), .val (.int d)] = some (.bl (isOpen c d), [.un, .un]) := by
  apply eq_W
  by_cases h : d % 7 ∈ c.1 <;> simp [open_onF, open_onB, W_fn, enc, isOpen, h]
theorem run_law_open (c : Cal) (d : Int) : _law_openF [.val (enc c), .val (.int d)] = some (.bl (isOpen c d), [.un, .un]) := by
  apply eq_W
  by_cases h : d % 7 ∈ c.1 <;> simp [_law_openF, _law_openB, W_fn, enc, isOpen, h]
theorem run_is_integer (d : Int) : is_integerF [.val (.int d)] = some (.bl true, [.un]) := by
  apply eq_W
  simp [is_integerF, is_integerB, W_fn]
theorem run_check_day (d : Int) (s : Str) (h1 : 0 ≤ d) (h2 : d ≤ 100000) : check_dayF [.val (.int d), .val (.str s)] = some (.non, [.un, .un]) := by
  apply eq_W
  simp [check_dayF, check_dayB, W_fn, run_is_integer, k_MAX_TIME, h1, h2]
theorem run_check_count (d : Int) (h1 : 1 ≤ d) (h2 : d ≤ 100000) : check_countF [.val (.int d)] = some (.non, [.un]) := by
  apply eq_W
  simp [check_countF, check_countB, W_fn, run_is_integer, k_MAX_TIME, h1, h2]
theorem run_rising (xs : List Int) (hl : xs.length ≤ 100000) (h : xs.Pairwise (· < ·)) : risingF [.val (.tup (xs.map .int))] = some (.bl true, [.un]) := by
  apply eq_W
  have hs : smallI ((xs.length : Int) - 1) = true := smallI_of (by omega) (by omega)
  simp [risingF, risingB, W_fn, rising_c1, hs]
  refine An.mk (by omega) (W_compM (fun _ => .bl true) (fun i hi => ?_) ?_)
  · have hi := irng_mem.mp hi
    have lt : xs[i.toNat]'(by omega) < xs[(i + 1).toNat]'(by omega) := List.pairwise_iff_getElem.mp h _ _ (by omega) (by omega) (by omega)
    simp [atI_pos (xs := xs) (i := i) (by omega) (by omega), atI_pos (xs := xs) (i := i + 1) (by omega) (by omega), lt]
  · simp
theorem run_check_calendar {c : Cal} (k : CalOk c) : check_calendarF [.val (enc c)] = some (.non, [.un]) := by
  apply eq_W
  have r1 := run_rising c.1 (by have := k.r3; omega) k.r1
  have r2 := run_rising c.2 (by have := k.h3; omega) k.h1
  have l1 : ¬ (6 : Int) < c.1.length := by have := k.r3; omega
  have l2 : ¬ (60 : Int) < c.2.length := by have := k.h3; omega
  have l3 : c.1.length ≤ 16777216 := by have := k.r3; omega
  have l4 : c.2.length ≤ 16777216 := by have := k.h3; omega
  simp [check_calendarF, check_calendarB, W_fn, check_calendar_c1, enc, compL, pall_cons, l1, l3, check_calendar_c2]
  refine W_compM (fun _ => .bl true) (fun i hi => ?_) ?_
  · have := k.r2 i hi
    simp [run_is_integer, this.1, this.2]
  simp [k_MAX_ROWS, l2, l4, check_calendar_c3]
  refine W_compM (fun _ => .bl true) (fun i hi => ?_) ?_
  · have := k.h2 i hi
    simp [run_is_integer, k_MAX_TIME, this.1, this.2]
  simp [r1, r2]
theorem run_open_ahead {c : Cal} (k : CalOk c) (n : Nat) (hn : n < 1000000000) : open_aheadF [.val (enc c), .val (.int n)] = some (.int (cnt c n), [.un, .un]) := by
  apply eq_W
  have d7 : DivOk 7 := by decide
  have hs : smallI ((n : Int) % 7) = true := smallI_of (by omega) (by omega)
  have l1 : ((n : Int) % 7).toNat ≤ 16777216 := by omega
  have l4 : c.2.length ≤ 16777216 := by have := k.h3; omega
  have hM : GX.MulOk ((n : Int) / 7) (7 - c.1.length) := mulOk_r (by have := k.r3; omega)
  simp [open_aheadF, open_aheadB, W_fn, open_ahead_c1, enc, d7, hs, l1, hM]
  refine W_compB (fun i => !decide (i ∈ c.1)) .int (fun i hi => ?_) ?_
  · by_cases h : i ∈ c.1 <;> simp [h]
  simp [open_ahead_c2, hM, l4]
  refine W_compB (fun i : Int => decide (i < (n : Int)) && !decide (i % 7 ∈ c.1)) .int (fun i hi => ?_) ?_
  · by_cases h1 : i < (n : Int) <;> by_cases h2 : i % 7 ∈ c.1 <;> simp [h1, h2]
  have e1 := num_irng c.1 (n % 7)
  have e2 := ahead_eq k n
  unfold wk hol at e2
  rw [← e1] at e2
  simp
  simpa using e2
theorem run_ahead {c : Cal} (k : CalOk c) (d : Int) (h0 : 0 ≤ d) (hn : d < 1000000000) : open_aheadF [.val (enc c), .val (.int d)] = some (.int (cnt c d.toNat), [.un, .un]) := by
  have := run_open_ahead k d.toNat (by omega)
  have e : ((d.toNat : Nat) : Int) = d := by omega
  rw [e] at this
  exact this
theorem run_with_ahead {c : Cal} (k : CalOk c) (g : Int) (h0 : 0 ≤ g) (h1 : g ≤ 1000000) : with_aheadF [.val (enc c), .val (.int g)] = some (.int (lst c g), [.un, .un]) := by
  apply eq_W
  have d2 : DivOk 2 := by decide
  have l4 : c.2.length ≤ 60 := k.h3
  have hM : GX.MulOk 7 (g + c.2.length + 1) := mulOk_l (by decide)
  have far := cnt_week k (g.toNat + c.2.length + 1)
  have far2 := (cnt_le c (show 7 * (g.toNat + c.2.length + 1) ≤ 7 * (g.toNat + c.2.length + 1) + 1 by omega)).1
  simp [with_aheadF, with_aheadB, W_fn, with_ahead_l1, hM]
  refine W_while (σ := Int × Int × Slot) (fun s => [.val (enc c), .val (.int g), .val (.int s.1), .val (.int s.2.1), s.2.2])
    (fun s => s.2.2.loc = true ∧ 0 ≤ s.1 ∧ s.1 ≤ s.2.1 ∧ s.2.1 ≤ 7 * (g + c.2.length + 1) ∧ (∀ i : Nat, i < s.1 → cnt c (i + 1) < g) ∧ g ≤ cnt c (s.2.1.toNat + 1)) (fun s => (s.2.1 - s.1).toNat) (0, 7 * (g + c.2.length + 1), .un) rfl ⟨rfl, Int.le_refl 0, by simp only; omega, Int.le_refl _, fun i hi => by simp only at hi; omega, ?_⟩ ?_
  · have e : (7 * (g + (c.2.length : Int) + 1)).toNat = 7 * (g.toNat + c.2.length + 1) := by omega
    rw [e]
    omega
  · rintro ⟨lo, hi, y⟩ ⟨hy, i1, i2, i3, i4, i5⟩
    simp only at hy i1 i2 i3 i4 i5
    simp [with_ahead_l1t]
    refine Br.mk (fun hlt => ?_) fun hlt => ?_
    · have ra := run_ahead k ((lo + hi) / 2 + 1) (by omega) (by omega)
      simp [with_ahead_l1b, d2, hy, ra]
      have et : ((lo + hi) / 2 + 1).toNat = ((lo + hi) / 2).toNat + 1 := by omega
      rw [et]
      refine Br.mk (fun hg => ?_) fun hg => ?_
      · simp
        refine ⟨lo, (lo + hi) / 2, _, ⟨rfl, rfl, rfl⟩, ⟨rfl, i1, by omega, by omega, i4, hg⟩, by omega⟩
      · simp
        refine ⟨(lo + hi) / 2 + 1, hi, _, ⟨rfl, rfl, rfl⟩, ⟨rfl, by omega, by omega, by omega, fun i hl => ?_, i5⟩, by omega⟩
        have := (cnt_le c (show i + 1 ≤ ((lo + hi) / 2).toNat + 1 by omega)).1
        omega
    · have e : hi = lo := by omega
      subst e
      have L : Least c g hi.toNat := ⟨i5, fun i q => i4 i (by omega)⟩
      simp [lst_eq L]
      omega
end Xk36

namespace Xk36
open PySem PySem.Spec PyProof.Rows L2 GX
theorem cnt_int {c : Cal} {d : Int} (h : 0 ≤ d) : 0 ≤ cnt c d.toNat ∧ cnt c d.toNat ≤ d := by
  have h1 := cnt_nn c d.toNat
  have h2 := (cnt_le c (Nat.zero_le d.toNat)).2
  have e : cnt c 0 = 0 := rfl
  omega
theorem run_add_open {c : Cal} (k : CalOk c) (d n : Int) (h0 : 0 ≤ d) (h1 : d ≤ 100000) (n0 : 1 ≤ n) (n1 : n ≤ 100000) : add_openF [.val (enc c), .val (.int d), .val (.int n)] = some (.int (lst c (cnt c (d.toNat + 1) + n)), [.un, .un, .un]) := by
  apply eq_W
  have e : (d + 1).toNat = d.toNat + 1 := by omega
  have b := cnt_int (c := c) (d := d + 1) (by omega)
  rw [e] at b
  simp [add_openF, add_openB, W_fn, run_check_calendar k, run_check_day d _ h0 h1, run_check_count n n0 n1, run_ahead k (d + 1) (by omega) (by omega), e, run_with_ahead k (cnt c (d.toNat + 1) + n) (by omega) (by omega)]
theorem run_open_between {c : Cal} (k : CalOk c) (d e : Int) (h0 : 0 ≤ d) (h : d ≤ e) (h1 : e ≤ 100000) : open_betweenF [.val (enc c), .val (.int d), .val (.int e)] = some (.int (cnt c e.toNat - cnt c d.toNat), [.un, .un, .un]) := by
  apply eq_W
  have g : ¬ e < d := by omega
  simp [open_betweenF, open_betweenB, W_fn, run_check_calendar k, run_check_day d _ h0 (by omega), run_check_day e _ (by omega) h1, g, run_ahead k d h0 (by omega), run_ahead k e (by omega) (by omega)]
theorem cnt_same {c : Cal} (a : Nat) : ∀ n : Nat, (∀ i : Nat, a ≤ i → i < a + n → isOpen c i = false) → cnt c (a + n) = cnt c a
  | 0, _ => rfl
  | n + 1, h => by
    rw [← Nat.add_assoc, cnt_succ, h (a + n) (by omega) (by omega), cnt_same a n fun i h1 h2 => h i h1 (by omega)]
    simp
theorem run_next_open {c : Cal} (k : CalOk c) (d : Int) (h0 : 0 ≤ d) (h1 : d ≤ 1000000) : next_openF [.val (enc c), .val (.int d)] = some (.int (lst c (cnt c d.toNat + 1)), [.un, .un]) := by
  apply eq_W
  obtain ⟨L, hb⟩ := lst_ok k (cnt c d.toNat + 1)
  generalize hE : lst c (cnt c d.toNat + 1) = E at L hb
  have hdE : d.toNat ≤ E := by
    rcases Nat.lt_or_ge E d.toNat with q | q
    · have := L.up
      have := (cnt_le c (show E + 1 ≤ d.toNat by omega)).1
      omega
    · exact q
  simp [next_openF, next_openB, W_fn, next_open_l1]
  refine W_while (σ := Int) (fun s => [.val (enc c), .val (.int s)]) (fun s => d ≤ s ∧ s ≤ E ∧ ∀ i : Nat, d.toNat ≤ i → i < s → isOpen c i = false) (fun s => (E - s).toNat) d rfl ⟨Int.le_refl _, by omega, fun i a b => by omega⟩ ?_
  rintro s ⟨i1, i2, i3⟩
  have hs := cnt_same (c := c) d.toNat (s.toNat - d.toNat) fun i a b => i3 i a (by omega)
  have es : d.toNat + (s.toNat - d.toNat) = s.toNat := by omega
  have es2 : ((s.toNat : Nat) : Int) = s := by omega
  rw [es] at hs
  simp [next_open_l1t, run_open_on]
  cases ho : isOpen c s
  · simp [next_open_l1b]
    have : s.toNat ≠ E := fun e => by
      have := L.up
      rw [← e, cnt_succ, es2, ho, hs] at this
      simp at this
      omega
    refine ⟨⟨by omega, by omega, fun i a b => ?_⟩, by omega⟩
    by_cases q : (i : Int) = s
    · rw [q]; exact ho
    · exact i3 i (by omega) (by omega)
  · simp
    have L2 : Least c (cnt c d.toNat + 1) s.toNat := by
      refine ⟨by rw [cnt_succ, es2, ho, hs]; simp, fun i hi => ?_⟩
      have := (cnt_le c (show i + 1 ≤ s.toNat by omega)).1
      omega
    have := L.uniq L2
    omega
/-- the last day of business up to a day -/
noncomputable def lastD (c : Cal) (d : Int) : Option Int := if cnt c (d.toNat + 1) = 0 then none else some (lst c (cnt c (d.toNat + 1)))
def encO : Option Int → PV
  | none => .non
  | some i => .int i
@[simp] theorem encO_pure (o : Option Int) : (encO o).pure = true := by cases o <;> rfl
theorem run_last_open {c : Cal} (k : CalOk c) (d : Int) (h0 : 0 ≤ d) : last_openF [.val (enc c), .val (.int d)] = some (encO (lastD c d), [.un, .un]) := by
  apply eq_W
  simp [last_openF, last_openB, W_fn, last_open_l1]
  refine W_while (σ := Int) (fun s => [.val (enc c), .val (.int s)]) (fun s => -1 ≤ s ∧ s ≤ d ∧ ∀ i : Nat, s < i → i ≤ d → isOpen c i = false) (fun s => (s + 1).toNat) d rfl ⟨by omega, Int.le_refl _, fun i a b => by omega⟩ ?_
  rintro s ⟨i1, i2, i3⟩
  have hs := cnt_same (c := c) (s + 1).toNat (d.toNat - s).toNat fun i a b => i3 i (by omega) (by omega)
  have es : (s + 1).toNat + (d.toNat - s).toNat = d.toNat + 1 := by omega
  rw [es] at hs
  simp [last_open_l1t, run_open_on]
  refine Br.mk (fun g => ?_) fun g => ?_
  · have es2 : ((s.toNat : Nat) : Int) = s := by omega
    have es3 : (s + 1).toNat = s.toNat + 1 := by omega
    cases ho : isOpen c s
    · simp [run_open_on, ho, last_open_l1b]
      refine ⟨⟨by omega, by omega, fun i a b => ?_⟩, by omega⟩
      by_cases q : (i : Int) = s
      · rw [q]; exact ho
      · exact i3 i (by omega) b
    · simp [run_open_on, ho, g]
      unfold lastD
      have cp := cnt_succ c s.toNat
      rw [es2, ho] at cp
      have nn := cnt_nn c s.toNat
      simp at cp
      rw [hs, es3, if_neg (by omega)]
      have L2 : Least c (cnt c (s.toNat + 1)) s.toNat := by
        refine ⟨Int.le_refl _, fun i hi => ?_⟩
        have := (cnt_le c (show i + 1 ≤ s.toNat by omega)).1
        omega
      rw [lst_eq L2]
      simp only [encO]
      rw [es2]
  · have e : s = -1 := by omega
    subst e
    have e0 : cnt c 0 = 0 := rfl
    simp [lastD, hs, e0, encO]
/-! the law's ways -/
theorem run_law_next {c : Cal} (k : CalOk c) (d n : Int) (h0 : 0 ≤ d) (n0 : 1 ≤ n) : _law_nextF [.val (enc c), .val (.int d), .val (.int n)] = some (.int (lst c (cnt c (d.toNat + 1) + n)), [.un, .un, .un]) := by
  apply eq_W
  obtain ⟨L, hb⟩ := lst_ok k (cnt c (d.toNat + 1) + n)
  generalize hE : lst c (cnt c (d.toNat + 1) + n) = E at L hb
  have hdE : d.toNat < E := by
    rcases Nat.lt_or_ge d.toNat E with q | q
    · exact q
    · have := L.up
      have := (cnt_le c (show E + 1 ≤ d.toNat + 1 by omega)).1
      omega
  simp [_law_nextF, _law_nextB, W_fn, _law_next_l1]
  refine W_while (σ := Int × Int) (fun s => [.val (enc c), .val (.int s.1), .val (.int s.2)]) (fun s => d ≤ s.1 ∧ s.1 ≤ E ∧ 0 ≤ s.2 ∧ cnt c (s.1.toNat + 1) + s.2 = cnt c (d.toNat + 1) + n ∧ (s.2 = 0 → isOpen c s.1 = true)) (fun s => (E - s.1).toNat) (d, n) rfl ⟨Int.le_refl _, by simp only; omega, by simp only; omega, rfl, by simp only; omega⟩ ?_
  rintro ⟨s, m⟩ ⟨i1, i2, i3, i4, i5⟩
  simp only at i1 i2 i3 i4 i5
  have es2 : ((s.toNat : Nat) : Int) = s := by omega
  simp [_law_next_l1t, run_law_open]
  refine Br.mk (fun g => ?_) fun g => ?_
  · have lt : s.toNat ≠ E := fun e => by
      have := L.up
      rw [← e] at this
      omega
    have e1 : (s + 1).toNat = s.toNat + 1 := by omega
    have e2 : (((s.toNat + 1 : Nat)) : Int) = s + 1 := by omega
    have cp := cnt_succ c (s.toNat + 1)
    rw [e2] at cp
    simp [_law_next_l1b, run_law_open]
    refine ⟨_, _, ⟨rfl, rfl⟩, ?_⟩
    rw [e1]
    cases ho : isOpen c (s + 1) <;> rw [ho] at cp <;> simp at cp ⊢ <;> omega
  · have e : m = 0 := by omega
    subst e
    have ho := i5 rfl
    have L2 : Least c (cnt c (d.toNat + 1) + n) s.toNat := by
      refine ⟨by omega, fun i hi => ?_⟩
      have := (cnt_le c (show i + 1 ≤ s.toNat by omega)).1
      have cp := cnt_succ c s.toNat
      rw [es2, ho] at cp
      simp at cp
      omega
    have := L.uniq L2
    simp
    omega
end Xk36

set_option maxHeartbeats 4000000
namespace Xk36
open PySem PySem.Spec PyProof.Rows L2 GX
noncomputable def lawLast (c : Cal) (d n : Int) : Option Int := if cnt c d.toNat < n then none else some (lst c (cnt c d.toNat - n + 1))
theorem run_law_last {c : Cal} (k : CalOk c) (d n : Int) (h0 : 0 ≤ d) (n0 : 1 ≤ n) : _law_lastF [.val (enc c), .val (.int d), .val (.int n)] = some (encO (lawLast c d n), [.un, .un, .un]) := by
  apply eq_W
  simp [_law_lastF, _law_lastB, W_fn, _law_last_l1]
  refine W_while (σ := Int × Int) (fun s => [.val (enc c), .val (.int s.1), .val (.int s.2)]) (fun s => 0 ≤ s.1 ∧ s.1 ≤ d ∧ 0 ≤ s.2 ∧ cnt c s.1.toNat + n = cnt c d.toNat + s.2 ∧ (s.2 = 0 → isOpen c s.1 = true)) (fun s => s.1.toNat) (d, n) rfl ⟨h0, Int.le_refl _, by simp only; omega, rfl, by simp only; omega⟩ ?_
  rintro ⟨s, m⟩ ⟨i1, i2, i3, i4, i5⟩
  simp only at i1 i2 i3 i4 i5
  have es2 : ((s.toNat : Nat) : Int) = s := by omega
  have nn := cnt_nn c s.toNat
  simp [_law_last_l1t, run_law_open]
  have fin0 : m = 0 → encO (lawLast c d n) = .int s := fun e => by
    subst e
    have ho := i5 rfl
    have cp := cnt_succ c s.toNat
    rw [es2, ho] at cp
    simp at cp
    have L2 : Least c (cnt c d.toNat - n + 1) s.toNat := by
      refine ⟨by omega, fun i hi => ?_⟩
      have := (cnt_le c (show i + 1 ≤ s.toNat by omega)).1
      omega
    unfold lawLast
    rw [if_neg (by omega), lst_eq L2]
    simp only [encO]
    rw [es2]
  refine Br.mk (fun g => ?_) fun g => ?_
  · simp
    refine Br.mk (fun g2 => ?_) fun g2 => ?_
    · have e1 : (s - 1).toNat = s.toNat - 1 := by omega
      have cp := cnt_succ c (s.toNat - 1)
      have e2 : (((s.toNat - 1 : Nat)) : Int) = s - 1 := by omega
      have e3 : s.toNat - 1 + 1 = s.toNat := by omega
      rw [e2, e3] at cp
      simp [_law_last_l1b, run_law_open]
      refine ⟨_, _, ⟨rfl, rfl⟩, ?_⟩
      rw [e1]
      cases ho : isOpen c (s - 1) <;> rw [ho] at cp <;> simp at cp ⊢ <;> omega
    · have e : s = 0 := by omega
      subst e
      have e0 : cnt c 0 = 0 := rfl
      simp at i4
      rw [e0] at i4
      have : ¬ m = 0 := by omega
      simp [this, lawLast]
      rw [if_pos (by omega)]
      rfl
  · have e : m = 0 := by omega
    have := fin0 e
    simp [e, this]
/-- moved to a day of business -/
noncomputable def movedC (c : Cal) (d : Int) (way : Str) : Int :=
  let later : Int := lst c (cnt c d.toNat + 1)
  match lastD c d with
  | none => later
  | some s => if way = "following" then later else if way = "preceding" then s else if later - d ≤ d - s then later else s
theorem run_moved_to {c : Cal} (k : CalOk c) (d : Int) (way : Str) (h0 : 0 ≤ d) (h1 : d ≤ 1000000) : moved_toF [.val (enc c), .val (.int d), .val (.str way)] = some (.int (movedC c d way), [.un, .un, .un]) := by
  apply eq_W
  have r1 := run_next_open k d h0 h1
  have r2 := run_last_open k d h0
  unfold movedC
  cases hl : lastD c d with
  | none => rw [hl] at r2; by_cases hw : way = "following" <;> simp [moved_toF, moved_toB, W_fn, r1, r2, encO, hw]
  | some s =>
    rw [hl] at r2
    by_cases hw : way = "following"
    · simp [moved_toF, moved_toB, W_fn, r1, r2, encO, hw]
    · by_cases hp : way = "preceding"
      · simp [moved_toF, moved_toB, W_fn, r1, r2, encO, hw, hp]
      · by_cases hd : (lst c (cnt c d.toNat + 1) : Int) - d ≤ d - s <;> simp [moved_toF, moved_toB, W_fn, r1, r2, encO, hw, hp, hd]
theorem run_law_moved {c : Cal} (k : CalOk c) (d : Int) (way : Str) (h0 : 0 ≤ d) (h1 : d ≤ 1000000) : _law_movedF [.val (enc c), .val (.int d), .val (.str way)] = some (.int (movedC c d way), [.un, .un, .un]) := by
  apply eq_W
  have es2 : ((d.toNat : Nat) : Int) = d := by omega
  have nn := cnt_nn c d.toNat
  have cp := cnt_succ c d.toNat
  rw [es2] at cp
  have r1 := run_law_next k d 1 h0 (by omega)
  have r2 := run_law_last k d 1 h0 (by omega)
  cases ho : isOpen c d
  · rw [ho] at cp
    simp at cp
    have e1 : lawLast c d 1 = lastD c d := by
      unfold lawLast lastD
      rw [cp]
      by_cases q : cnt c d.toNat = 0
      · rw [if_pos (by omega), if_pos q]
      · rw [if_neg (by omega), if_neg q]
        have : cnt c d.toNat - 1 + 1 = cnt c d.toNat := by omega
        rw [this]
    rw [cp] at r1
    rw [e1] at r2
    unfold movedC
    cases hl : lastD c d with
    | none => rw [hl] at r2; by_cases hw : way = "following" <;> simp [_law_movedF, _law_movedB, W_fn, run_law_open, ho, r1, r2, encO, hw]
    | some s =>
      rw [hl] at r2
      by_cases hw : way = "following"
      · simp [_law_movedF, _law_movedB, W_fn, run_law_open, ho, r1, r2, encO, hw]
      · by_cases hp : way = "preceding"
        · simp [_law_movedF, _law_movedB, W_fn, run_law_open, ho, r1, r2, encO, hw, hp]
        · by_cases hd : (lst c (cnt c d.toNat + 1) : Int) - d ≤ d - s
          · have hd2 : ¬ (d - s < (lst c (cnt c d.toNat + 1) : Int) - d) := by omega
            simp [_law_movedF, _law_movedB, W_fn, run_law_open, ho, r1, r2, encO, hw, hp, hd, hd2]
          · have hd2 : d - s < (lst c (cnt c d.toNat + 1) : Int) - d := by omega
            simp [_law_movedF, _law_movedB, W_fn, run_law_open, ho, r1, r2, encO, hw, hp, hd, hd2]
  · rw [ho] at cp
    simp at cp
    have L1 : Least c (cnt c d.toNat + 1) d.toNat := by
      refine ⟨by omega, fun i hi => ?_⟩
      have := (cnt_le c (show i + 1 ≤ d.toNat by omega)).1
      omega
    have e1 := lst_eq L1
    have e2 : lastD c d = some d := by
      unfold lastD
      rw [if_neg (by omega), cp, e1, es2]
    unfold movedC
    rw [e1, e2]
    simp [_law_movedF, _law_movedB, W_fn, run_law_open, ho, es2]
theorem run_moved {c : Cal} (k : CalOk c) (d : Int) (way : Str) (h0 : 0 ≤ d) (h1 : d ≤ 100000) (hw : way = "following" ∨ way = "preceding" ∨ way = "nearest") : movedF [.val (enc c), .val (.int d), .val (.str way)] = some (.int (movedC c d way), [.un, .un, .un]) := by
  apply eq_W
  have m : pnin (.str way) k_WAYS = some (.bl false) := by rcases hw with rfl | rfl | rfl <;> rfl
  simp [movedF, movedB, W_fn, run_check_calendar k, run_check_day d _ h0 h1, m, run_moved_to k d way h0 (by omega)]
theorem run_is_open {c : Cal} (k : CalOk c) (d : Int) (h0 : 0 ≤ d) (h1 : d ≤ 100000) : is_openF [.val (enc c), .val (.int d)] = some (.bl (isOpen c d), [.un, .un]) := by
  apply eq_W
  simp [is_openF, is_openB, W_fn, run_check_calendar k, run_check_day d _ h0 h1, run_open_on]
theorem run_take_open {c : Cal} (k : CalOk c) (d n : Int) (h0 : 0 ≤ d) (h1 : d ≤ 100000) (n0 : 1 ≤ n) (n1 : n ≤ 100000) : take_openF [.val (enc c), .val (.int d), .val (.int n)] = some (encO (lawLast c d n), [.un, .un, .un]) := by
  apply eq_W
  have b := cnt_int (c := c) h0
  by_cases q : cnt c d.toNat < n
  · have q2 : ¬ 1 ≤ cnt c d.toNat - n + 1 := by omega
    simp [take_openF, take_openB, W_fn, run_check_calendar k, run_check_day d _ h0 h1, run_check_count n n0 n1, run_ahead k d h0 (by omega), q2, lawLast, q, encO]
  · have q2 : 1 ≤ cnt c d.toNat - n + 1 := by omega
    simp [take_openF, take_openB, W_fn, run_check_calendar k, run_check_day d _ h0 h1, run_check_count n n0 n1, run_ahead k d h0 (by omega), q2, run_with_ahead k (cnt c d.toNat - n + 1) (by omega) (by omega), lawLast, q, encO]
end Xk36

namespace Xk36
open PySem PySem.Spec PyProof.Rows L2 GX
/-- what judge_by tells -/
noncomputable def judged (c : Cal) (b n e : Int) : PV :=
  let there := lst c (cnt c (b.toNat + 1) + n)
  if e < there then .tup [.str "late", .int there] else .tup [.str "by", .int (cnt c (e.toNat + 1) - cnt c (there + 1))]
theorem run_judge_by {c : Cal} (k : CalOk c) (b n e : Int) (b0 : 0 ≤ b) (b1 : b ≤ 100000) (n0 : 1 ≤ n) (n1 : n ≤ 100000) (e0 : 0 ≤ e) (e1 : e ≤ 100000) :
    judge_byF [.val (enc c), .val (.int b), .val (.int n), .val (.int e)] = some (judged c b n e, [.un, .un, .un, .un]) := by
  apply eq_W
  have t : (b + 1).toNat = b.toNat + 1 := by omega
  have t2 : (e + 1).toNat = e.toNat + 1 := by omega
  have q := cnt_int (c := c) (d := b + 1) (by omega)
  rw [t] at q
  have hb := (lst_ok k (cnt c (b.toNat + 1) + n)).2
  have t3 : ((lst c (cnt c (b.toNat + 1) + n) : Int) + 1).toNat = lst c (cnt c (b.toNat + 1) + n) + 1 := by omega
  simp [judge_byF, judge_byB, W_fn, run_check_calendar k, run_check_day b _ b0 b1, run_check_day e _ e0 e1, run_check_count n n0 n1, run_ahead k (b + 1) (by omega) (by omega), t, run_with_ahead k (cnt c (b.toNat + 1) + n) (by omega) (by omega), judged]
  refine Br.mk (fun h => ?_) fun h => ?_
  · simp [h, judged]
  · simp [h, judged, run_ahead k (e + 1) (by omega) (by omega), t2, run_ahead k ((lst c (cnt c (b.toNat + 1) + n) : Int) + 1) (by omega) (by omega), t3]
theorem run_accept_by {c : Cal} (k : CalOk c) (b n e : Int) (ds : List Int) (b0 : 0 ≤ b) (b1 : b ≤ 100000) (n0 : 1 ≤ n) (n1 : n ≤ 100000) (e0 : 0 ≤ e) (e1 : e ≤ 100000) (hl : ds.length ≤ 100000) (hr : ds.Pairwise (· < ·)) (hd : ∀ x ∈ ds, b < x ∧ x ≤ e) (ho : ∀ x ∈ ds, isOpen c x = true) (hn : n ≤ ds.length) :
    accept_byF [.val (enc c), .val (.int b), .val (.int n), .val (.int e), .val (.tup (ds.map .int))] = some (.non, [.un, .un, .un, .un, .un]) := by
  apply eq_W
  have l1 : ds.length ≤ 16777216 := by omega
  simp [accept_byF, accept_byB, W_fn, run_check_calendar k, run_check_day b _ b0 b1, run_check_day e _ e0 e1, run_check_count n n0 n1, accept_by_c1, l1]
  refine W_compM (fun _ => .bl true) (fun x hx => ?_) ?_
  · have := hd x hx
    simp [run_is_integer, k_MAX_TIME, show 0 ≤ x by omega, show x ≤ 100000 by omega]
  simp [run_rising ds hl hr, accept_by_c2, l1]
  refine W_compM (fun _ => .bl true) (fun x hx => ?_) ?_
  · have := hd x hx
    simp [this.1, this.2]
  simp [accept_by_c3, l1]
  refine W_compM (fun _ => .bl true) (fun x hx => ?_) ?_
  · simp [run_open_on, ho x hx]
  simp [show ¬ (ds.length : Int) < n by omega]
theorem run_accept_late {c : Cal} (k : CalOk c) (b n e : Int) (ds : List Int) (b0 : 0 ≤ b) (b1 : b ≤ 100000) (n0 : 1 ≤ n) (n1 : n ≤ 100000) (e0 : 0 ≤ e) (e1 : e ≤ 100000) (hl : ds.length ≤ 100000) (hr : ds.Pairwise (· < ·)) (hd : ∀ x ∈ ds, b < x ∧ x ≤ e) (ho : ∀ x ∈ ds, isOpen c x = false) (hn : max 0 (e - b) - ds.length < n) :
    accept_lateF [.val (enc c), .val (.int b), .val (.int n), .val (.int e), .val (.tup (ds.map .int))] = some (.non, [.un, .un, .un, .un, .un]) := by
  apply eq_W
  have l1 : ds.length ≤ 16777216 := by omega
  simp [accept_lateF, accept_lateB, W_fn, run_check_calendar k, run_check_day b _ b0 b1, run_check_day e _ e0 e1, run_check_count n n0 n1, accept_late_c1, l1]
  refine W_compM (fun _ => .bl true) (fun x hx => ?_) ?_
  · have := hd x hx
    simp [run_is_integer, k_MAX_TIME, show 0 ≤ x by omega, show x ≤ 100000 by omega]
  simp [run_rising ds hl hr, accept_late_c2, l1]
  refine W_compM (fun _ => .bl true) (fun x hx => ?_) ?_
  · have := hd x hx
    simp [this.1, this.2]
  simp [accept_late_c3, l1]
  refine W_compM (fun _ => .bl false) (fun x hx => ?_) ?_
  · simp [run_open_on, ho x hx]
  simp [show ¬ n ≤ max 0 (e - b) - (ds.length : Int) by omega]
/-! the longest row of days of rest -/
def encO2 : Option (Int × Int) → PV
  | none => .non
  | some (i, j) => .tup [.int i, .int j]
@[simp] theorem encO2_pure (o : Option (Int × Int)) : (encO2 o).pure = true := by cases o <;> simp [encO2]
def stepP (c : Cal) (s : Option (Int × Int) × Option Int) (d : Int) : Option (Int × Int) × Option Int :=
  if isOpen c d = true then (s.1, none) else
    let b := match s.2 with | none => d | some b => b
    (match s.1 with | none => some (b, d - b + 1) | some (x, m) => if m < d - b + 1 then some (b, d - b + 1) else some (x, m), some b)
def stepL (c : Cal) (s : Option (Int × Int) × Int) (d : Int) : Option (Int × Int) × Int :=
  let row := if isOpen c d = true then 0 else s.2 + 1
  (if 0 < row then (match s.1 with | none => some (d - row + 1, row) | some (x, m) => if m < row then some (d - row + 1, row) else some (x, m)) else s.1, row)
theorem steps_eq (c : Cal) (a : Int) (best : Option (Int × Int)) : ∀ n : Nat,
    let p := (irng a (a + n)).foldl (stepP c) (best, none)
    let l := (irng a (a + n)).foldl (stepL c) (best, 0)
    p.1 = l.1 ∧ 0 ≤ l.2 ∧ (match p.2 with | none => l.2 = 0 | some b => l.2 = a + n - b ∧ 0 < l.2)
  | 0 => by
    have : irng a (a + (0 : Nat)) = [] := irng_nil (by omega)
    rw [this]
    simp
  | n + 1 => by
    have e : a + ((n + 1 : Nat) : Int) = a + n + 1 := by omega
    have ih := steps_eq c a best n
    rw [e, irng_snoc (by omega)]
    simp only [List.foldl_append, List.foldl_cons, List.foldl_nil] at ih ⊢
    generalize (irng a (a + n)).foldl (stepP c) (best, none) = p at ih
    generalize (irng a (a + n)).foldl (stepL c) (best, 0) = l at ih
    obtain ⟨p1, p2⟩ := p
    obtain ⟨l1, l2⟩ := l
    simp only at ih
    obtain ⟨rfl, i2, i3⟩ := ih
    unfold stepP stepL
    cases ho : isOpen c (a + n)
    · simp only [Bool.false_eq_true, if_false]
      have pos : 0 < l2 + 1 := by omega
      simp only [pos, if_true]
      cases p2 with
      | none =>
        simp only at i3
        subst i3
        have e1 : a + (n : Int) - (0 + 1) + 1 = a + n := by omega
        have e2 : a + (n : Int) - (a + n) + 1 = 0 + 1 := by omega
        simp only [e1, e2]
        exact ⟨trivial, by omega, by omega, trivial⟩
      | some b =>
        simp only at i3
        have e1 : a + (n : Int) - (l2 + 1) + 1 = b := by omega
        have e2 : a + (n : Int) - b + 1 = l2 + 1 := by omega
        simp only [e1, e2]
        exact ⟨trivial, by omega, by omega, trivial⟩
    · simp only [if_true]
      simp
/-- the longest row of days of rest from a day on -/
def restD (c : Cal) (a : Int) (n : Nat) : Option (Int × Int) := ((irng a (a + n)).foldl (stepL c) (none, 0)).1
theorem run_longest_rest {c : Cal} (k : CalOk c) (a e : Int) (a0 : 0 ≤ a) (h : a ≤ e) (e1 : e ≤ 100000) (hd : e - a ≤ 2400) : longest_restF [.val (enc c), .val (.int a), .val (.int e)] = some (encO2 (restD c a (e + 1 - a).toNat), [.un, .un, .un]) := by
  apply eq_W
  have hm : MulOk 40 60 := by decide
  have s1 : smallI a = true := smallI_of (by omega) (by omega)
  have s2 : smallI (e + 1) = true := smallI_of (by omega) (by omega)
  simp [longest_restF, longest_restB, W_fn, run_check_calendar k, run_check_day a _ a0 (by omega), run_check_day e _ (by omega) e1, show ¬ e < a by omega, k_MAX_ROWS, hm, show ¬ 2400 < e - a by omega, longest_rest_l1, s1, s2]
  refine W_forF (σ := Option (Int × Int) × Option Int) (fun s y => [.val (enc c), .val (.int a), .val (.int e), .val (encO2 s.1), .val (encO s.2), y]) (stepP c) (s0 := (none, none)) rfl rfl (fun p x q y hx hy => ?_) fun y hy => ?_
  · generalize p.foldl (stepP c) (none, none) = s
    obtain ⟨best, beg⟩ := s
    refine ⟨rfl, ?_⟩
    cases ho : isOpen c x
    · cases beg with
      | none =>
        cases best with
        | none => simp [longest_rest_l1b, hy, run_open_on, ho, encO, encO2, stepP]
        | some b =>
          obtain ⟨b1, b2⟩ := b
          by_cases hb : b2 < 1 <;> simp [longest_rest_l1b, hy, run_open_on, ho, encO, encO2, stepP, hb]
      | some g =>
        cases best with
        | none => simp [longest_rest_l1b, hy, run_open_on, ho, encO, encO2, stepP]
        | some b =>
          obtain ⟨b1, b2⟩ := b
          by_cases hb : b2 < x - g + 1 <;> simp [longest_rest_l1b, hy, run_open_on, ho, encO, encO2, stepP, hb]
    · simp [longest_rest_l1b, hy, run_open_on, ho, stepP, encO]
  · have e2 : a + ((e + 1 - a).toNat : Int) = e + 1 := by omega
    have := (steps_eq c a none (e + 1 - a).toNat).1
    unfold restD
    rw [← this, e2]
    simp
theorem run_law_rest (c : Cal) (a e : Int) (a0 : 0 ≤ a) (h : a ≤ e) (e1 : e ≤ 100000) : _law_restF [.val (enc c), .val (.int a), .val (.int e)] = some (encO2 (restD c a (e + 1 - a).toNat), [.un, .un, .un]) := by
  apply eq_W
  have s1 : smallI a = true := smallI_of (by omega) (by omega)
  have s2 : smallI (e + 1) = true := smallI_of (by omega) (by omega)
  simp [_law_restF, _law_restB, W_fn, _law_rest_l1, s1, s2]
  refine W_forF (σ := Option (Int × Int) × Int) (fun s y => [.val (enc c), .val (.int a), .val (.int e), .val (encO2 s.1), .val (.int s.2), y]) (stepL c) (s0 := (none, 0)) rfl rfl (fun p x q y hx hy => ?_) fun y hy => ?_
  · generalize p.foldl (stepL c) (none, 0) = s
    obtain ⟨best, row⟩ := s
    refine ⟨rfl, ?_⟩
    cases ho : isOpen c x
    · by_cases hr : 0 < row + 1
      · cases best with
        | none => simp [_law_rest_l1b, hy, run_law_open, ho, encO2, stepL, hr]
        | some b =>
          obtain ⟨b1, b2⟩ := b
          by_cases hb : b2 < row + 1 <;> simp [_law_rest_l1b, hy, run_law_open, ho, encO2, stepL, hr, hb]
      · simp [_law_rest_l1b, hy, run_law_open, ho, encO2, stepL, hr]
    · simp [_law_rest_l1b, hy, run_law_open, ho, stepL]
  · have e2 : a + ((e + 1 - a).toNat : Int) = e + 1 := by omega
    unfold restD
    rw [e2]
    simp
theorem run_due_days {c : Cal} (k : CalOk c) (d st n : Int) (way : Str) (h0 : 0 ≤ d) (h1 : d ≤ 100000) (s0 : 1 ≤ st) (s1 : st ≤ 1000) (n0 : 0 ≤ n) (n1 : n ≤ 60) (hw : way = "following" ∨ way = "preceding" ∨ way = "nearest") :
    due_daysF [.val (enc c), .val (.int d), .val (.int st), .val (.int n), .val (.str way)] = some (.tup ((irng 0 n).map fun j => .int (movedC c (d + st * j) way)), [.un, .un, .un, .un, .un]) := by
  apply eq_W
  have m : pnin (.str way) k_WAYS = some (.bl false) := by rcases hw with rfl | rfl | rfl <;> rfl
  have sn : smallI n = true := smallI_of (by omega) (by omega)
  simp [due_daysF, due_daysB, W_fn, run_check_calendar k, run_check_day d _ h0 h1, run_is_integer, s0, k_MAX_TIME, show st ≤ 100000 by omega, n0, k_MAX_ROWS, n1, m, due_days_c1, sn]
  refine An.mk (by omega) (W_compM (fun j => .int (movedC c (d + st * j) way)) (fun x hx => ?_) ?_)
  · have hx := irng_mem.mp hx
    have b1 : st * x ≤ 1000 * 60 := Int.mul_le_mul s1 (by omega) hx.1 (by omega)
    have b0 : 0 ≤ st * x := Int.mul_nonneg (by omega) hx.1
    simp [mulOk_l (i := st) (j := x) (by omega), run_moved_to k (d + st * x) way (by omega) (by omega)]
  simp
end Xk36

namespace Xk36
open PySem PySem.Spec PyProof.Rows L2 GX
theorem isOpen_hol {c : Cal} {d : Int} (h : d ∈ c.2) : isOpen c d = false := by simp [isOpen, h]
/-- where the holidays of the law stand -/
def CalIn (c : Cal) : Prop := ∀ x ∈ c.2, x < 120 ∨ 99990 ≤ x
def unl (a b : Cal) : List Int := (irng 0 140).filter (fun d => !decide (isOpen a d = isOpen b d)) ++ (irng 99990 100001).filter (fun d => !decide (isOpen a d = isOpen b d))
def sameD (a b : Cal) : Bool := decide (a.1 = b.1) && (a.2 ++ b.2).all fun d => decide (isOpen a d = isOpen b d)
theorem rest_out {a b : Cal} (ka : CalOk a) (kb : CalOk b) (ib : CalIn b) {w : Int} (h1 : w ∈ a.1) (h2 : w ∉ b.1) : ∃ d, 0 ≤ d ∧ d < 140 ∧ isOpen a d = false ∧ isOpen b d = true := by
  have hw := ka.r2 w h1
  refine ⟨119 + w + 7 - 0, by omega, by omega, ?_, ?_⟩
  · have : (119 + w + 7 - 0) % 7 = w := by omega
    simp only [isOpen, this, h1]
    rfl
  · have e : (119 + w + 7 - 0) % 7 = w := by omega
    have n : ¬ (119 + w + 7 - 0) ∈ b.2 := fun h => by have := ib _ h; omega
    simp only [isOpen, e, h2, n]
    rfl
theorem same_unl {a b : Cal} (ka : CalOk a) (kb : CalOk b) (ia : CalIn a) (ib : CalIn b) : sameD a b = decide (unl a b = []) := by
  have hu : unl a b = [] ↔ ∀ d : Int, ((0 ≤ d ∧ d < 140) ∨ (99990 ≤ d ∧ d < 100001)) → isOpen a d = isOpen b d := by
    unfold unl
    rw [List.append_eq_nil_iff, List.filter_eq_nil_iff, List.filter_eq_nil_iff]
    constructor
    · rintro ⟨h1, h2⟩ d (h | h)
      · have := h1 d (irng_mem.mpr h)
        simpa using this
      · have := h2 d (irng_mem.mpr h)
        simpa using this
    · intro h
      exact ⟨fun d hd => by simpa using h d (.inl (irng_mem.mp hd)), fun d hd => by simpa using h d (.inr (irng_mem.mp hd))⟩
  have hs : sameD a b = true ↔ ∀ d : Int, ((0 ≤ d ∧ d < 140) ∨ (99990 ≤ d ∧ d < 100001)) → isOpen a d = isOpen b d := by
    unfold sameD
    simp only [Bool.and_eq_true, decide_eq_true_eq, List.all_eq_true]
    constructor
    · rintro ⟨h1, h2⟩ d _
      by_cases hd : d ∈ a.2 ++ b.2
      · exact h2 d hd
      · simp only [List.mem_append, not_or] at hd
        simp only [isOpen, h1, hd.1, hd.2]
    · intro h
      refine ⟨?_, fun d hd => ?_⟩
      · refine eq_of_lt ka.r1 kb.r1 fun w => ⟨fun hw => ?_, fun hw => ?_⟩
        · refine Decidable.byContradiction fun n => ?_
          obtain ⟨d, d0, d1, e1, e2⟩ := rest_out ka kb ib hw n
          have := h d (.inl ⟨d0, d1⟩)
          rw [e1, e2] at this
          cases this
        · refine Decidable.byContradiction fun n => ?_
          obtain ⟨d, d0, d1, e1, e2⟩ := rest_out kb ka ia hw n
          have := h d (.inl ⟨d0, d1⟩)
          rw [e1, e2] at this
          cases this
      · have : (0 ≤ d ∧ d ≤ 100000) ∧ (d < 120 ∨ 99990 ≤ d) := by
          rcases List.mem_append.mp hd with q | q
          · exact ⟨ka.h2 d q, ia d q⟩
          · exact ⟨kb.h2 d q, ib d q⟩
        exact h d (by omega)
  rw [Bool.eq_iff_iff, hs, decide_eq_true_eq, hu]
theorem run_same_days {a b : Cal} (ka : CalOk a) (kb : CalOk b) : same_daysF [.val (enc a), .val (enc b)] = some (.bl (sameD a b), [.un, .un]) := by
  apply eq_W
  simp [same_daysF, same_daysB, W_fn, run_check_calendar ka, run_check_calendar kb]
  by_cases h : a.1 = b.1
  · have l1 : a.2.length + b.2.length ≤ 16777216 := by have := ka.h3; have := kb.h3; omega
    simp [h, same_days_c1, l1]
    rw [← List.map_append]
    refine W_compM (fun d => .bl (decide (isOpen a d = isOpen b d))) (fun x hx => ?_) ?_
    · simp [run_open_on]
    simp [sameD, h, -List.map_append]
  · simp [h, sameD]
/-! the law's own calendars -/
structure CalR (s : List Int) (m : Int) : Prop where
  lt : s.Pairwise (· < ·)
  rg : ∀ x ∈ s, 0 ≤ x ∧ x < m
theorem insI_len (k : Int) : ∀ l : List Int, (insI k l).length ≤ l.length + 1
  | [] => by simp [insI]
  | x :: l => by
    unfold insI
    have := insI_len k l
    split
    · simp
    · split <;> simp <;> omega
theorem sset_len : ∀ l : List Int, (sset l).length ≤ l.length
  | [] => by simp [sset]
  | x :: l => by
    have := sset_len l
    have h2 := insI_len x (sset l)
    show (insI x (sset l)).length ≤ l.length + 1
    omega
theorem run_law_rising {s : St} (hs : s.ok) (m n : Int) (m0 : 0 < m) (m1 : m < 1000000) (n0 : 0 ≤ n) (n1 : n < 64) : ∃ (s' : St) (r : List Int), s'.ok ∧ CalR r m ∧ (r.length : Int) ≤ n ∧ _law_risingF [.ref s.enc, .val (.int m), .val (.int n)] = some (.tup (r.map .int), [.ref s'.enc, .un, .un]) := by
  have h : ∀ Q : PV × List Slot → Prop, (∀ (s : St) (r : List Int), s.ok → CalR r m → (r.length : Int) ≤ n → Q (.tup (r.map .int), [.ref s.enc, .un, .un])) → W (_law_risingF [.ref s.enc, .val (.int m), .val (.int n)]) (Q := ⟨Q⟩) := fun Q hQ => by
    have sn : smallI n = true := smallI_of (by omega) (by omega)
    simp [_law_risingF, _law_risingB, W_fn, _law_rising_c1, sn]
    refine An.mk (by omega) (W_compI (α := Int) (fun p ys ρ => ∃ (s : St) (r : List Int), s.ok ∧ (∀ x ∈ r, 0 ≤ x ∧ x < m) ∧ r.length = p.length ∧ ys = r.map .int ∧ ρ = [.ref s.enc, .val (.int m), .val (.int n), .un]) ⟨s, [], hs, by simp, rfl, rfl, rfl⟩ (fun p x q ys ρ e ⟨s, r, h1, h2, h3, h4, h5⟩ => ?_) fun ys ρ ⟨s, r, h1, h2, h3, h4, h5⟩ => ?_)
    · subst h5
      obtain ⟨s', v, a1, a2, a3⟩ := run_draw h1 m m0 (by omega)
      simp [a3]
      refine ⟨s', a1, r ++ [v], fun x hx => ?_, by simp [h3], by simp [h4], rfl⟩
      rcases List.mem_append.mp hx with q | q
      · exact h2 x q
      · have : x = v := by simpa using q
        rw [this]; exact a2
    · subst h5 h4
      have hl : r.length = n.toNat := by rw [h3]; simp
      have hl2 := sset_len r
      simp [show r.length < 64 by omega]
      exact hQ s (sset r) h1 ⟨sset_lt r, fun x hx => h2 x (sset_mem.mp hx)⟩ (by omega)
  obtain ⟨a, e, s, v, h1, h2, h3, h4⟩ := h (fun r => ∃ (s : St) (v : List Int), s.ok ∧ CalR v m ∧ (v.length : Int) ≤ n ∧ r = (.tup (v.map .int), [.ref s.enc, .un, .un])) fun s v h h' h'' => ⟨s, v, h, h', h'', rfl⟩
  exact ⟨s, v, h1, h2, h3, by rw [e, h4]⟩
end Xk36

namespace Xk36
open PySem PySem.Spec PyProof.Rows L2 GX
theorem run_law_calendar {s : St} (hs : s.ok) : ∃ (s' : St) (c : Cal), s'.ok ∧ CalOk c ∧ (∀ x ∈ c.2, x < 120) ∧ c.2.length ≤ 40 ∧ _law_calendarF [.ref s.enc] = some (enc c, [.ref s'.enc]) := by
  have h : ∀ Q : PV × List Slot → Prop, (∀ (s : St) (c : Cal), s.ok → CalOk c → (∀ x ∈ c.2, x < 120) → c.2.length ≤ 40 → Q (enc c, [.ref s.enc])) → W (_law_calendarF [.ref s.enc]) (Q := ⟨Q⟩) := fun Q hQ => by
    obtain ⟨s1, v1, a1, b1, e1⟩ := run_draw hs 7 (by omega) (by omega)
    obtain ⟨s2, r2, a2, b2, c2, e2⟩ := run_law_rising a1 7 v1 (by omega) (by omega) b1.1 (by omega)
    obtain ⟨s3, p3, a3, b3, e3⟩ := run_pick (o := true) a2 (xs := [.int 9, .int 40, .int 120]) (by simp) (by simp) (by simp)
    obtain ⟨s4, p4, a4, b4, e4⟩ := run_pick (o := true) a3 (xs := [.int 0, .int 2, .int 9, .int 40]) (by simp) (by simp) (by simp)
    have fin : ∀ m n : Int, p3 = .int m → p4 = .int n → (0 < m ∧ m ≤ 120) → (0 ≤ n ∧ n ≤ 40) → W (_law_calendarF [.ref s.enc]) (Q := ⟨Q⟩) := fun m n h3 h4 hm hn => by
      subst h3 h4
      obtain ⟨s5, r5, a5, b5, c5, e5⟩ := run_law_rising a4 m n hm.1 (by omega) hn.1 (by omega)
      simp [_law_calendarF, _law_calendarB, W_fn, e1, e2, e3, e4, e5]
      have ht : ∀ x, x ∈ r2.take 6 → x ∈ r2 := fun x hx => List.mem_of_mem_take hx
      have hlt : (r2.take 6).length ≤ 6 := by simp; omega
      have := hQ s5 (r2.take 6, r5) a5 ⟨b2.lt.sublist (List.take_sublist ..), fun x hx => by have := b2.rg x (ht x hx); omega, hlt, b5.lt, fun x hx => by have := b5.rg x hx; omega, by simp only; omega⟩ (fun x hx => by have := b5.rg x hx; omega) (by simp only; omega)
      simpa [enc] using this
    simp at b3 b4
    rcases b3 with h3 | h3 | h3 <;> rcases b4 with h4 | h4 | h4 | h4 <;> exact fin _ _ h3 h4 (by omega) (by omega)
  obtain ⟨a, e, s, c, h1, h2, h3, h4, h5⟩ := h (fun r => ∃ (s : St) (c : Cal), s.ok ∧ CalOk c ∧ (∀ x ∈ c.2, x < 120) ∧ c.2.length ≤ 40 ∧ r = (enc c, [.ref s.enc])) fun s c h h' h'' h4 => ⟨s, c, h, h', h'', h4, rfl⟩
  exact ⟨s, c, h1, h2, h3, h4, by rw [e, h5]⟩
theorem sset_add {l : List Int} (d : Int) : ∀ x, x ∈ sset (l ++ [d]) ↔ x ∈ l ∨ x = d := fun x => by rw [sset_mem]; simp
theorem run_law_other {s : St} (hs : s.ok) {c : Cal} (k : CalOk c) (hi : ∀ x ∈ c.2, x < 120) (hl : c.2.length ≤ 40) : ∃ (s' : St) (c' : Cal), s'.ok ∧ CalOk c' ∧ CalIn c' ∧ _law_otherF [.ref s.enc, .val (enc c)] = some (enc c', [.ref s'.enc, .un]) := by
  have h : ∀ Q : PV × List Slot → Prop, (∀ (s : St) (c : Cal), s.ok → CalOk c → CalIn c → Q (enc c, [.ref s.enc, .un])) → W (_law_otherF [.ref s.enc, .val (enc c)]) (Q := ⟨Q⟩) := fun Q hQ => by
    obtain ⟨s1, c1, a1, k1, i1, l1, e1⟩ := run_law_calendar hs
    obtain ⟨s2, v2, a2, b2, e2⟩ := run_draw a1 50 (by omega) (by omega)
    obtain ⟨s3, v3, a3, b3, e3⟩ := run_draw a2 7 (by omega) (by omega)
    have ee : enc c = .tup [.tup (c.1.map .int), .tup (c.2.map .int)] := rfl
    have l4 : c.2.length + 1 ≤ 16777216 := by omega
    have l5 : c.2.length ≤ 16777216 := by omega
    have l6 : c.2.length + 1 < 64 := by omega
    simp [_law_otherF, _law_otherB, W_fn, _law_other_l1, e1, ee, e2, e3, W_forCons, W_forNil, _law_other_l1b, l4, l6, _law_other_c1, l5]
    rw [← ee]
    refine W_compB (fun x => !decide (x % 7 ∈ c.1)) PV.int (fun x hx => ?_) ?_
    · by_cases hm : x % 7 ∈ c.1 <;> simp [hm]
    simp
    let cs : List Cal := [c, c1, (c.1, c.2.dropLast), (c.1, sset (c.2 ++ [v2])), (c.1, sset (c.2 ++ [100000 - v3])), (c.1, c.2.filter fun x => !decide (x % 7 ∈ c.1))]
    obtain ⟨s4, p4, a4, b4, e4⟩ := run_pick (o := true) a3 (xs := cs.map enc) (by simp [cs]) (by simp [cs]) (by simp [cs])
    have key : ∀ c' ∈ cs, CalOk c' ∧ CalIn c' := by
      have add : ∀ d : Int, 0 ≤ d → d ≤ 100000 → (d < 120 ∨ 99990 ≤ d) → CalOk (c.1, sset (c.2 ++ [d])) ∧ CalIn (c.1, sset (c.2 ++ [d])) := fun d d0 d1 d2 => by
        have hlen := sset_len (c.2 ++ [d])
        simp at hlen
        refine ⟨⟨k.r1, k.r2, k.r3, sset_lt _, fun x hx => ?_, by simp only; omega⟩, fun x hx => ?_⟩
        · rcases (sset_add d x).mp hx with q | q
          · exact k.h2 x q
          · omega
        · rcases (sset_add d x).mp hx with q | q
          · exact .inl (hi x q)
          · omega
      simp only [cs, List.mem_cons, List.not_mem_nil, or_false]
      rintro c' (rfl | rfl | rfl | rfl | rfl | rfl)
      · exact ⟨k, fun x hx => .inl (hi x hx)⟩
      · exact ⟨k1, fun x hx => .inl (i1 x hx)⟩
      · exact ⟨⟨k.r1, k.r2, k.r3, k.h1.sublist (List.dropLast_sublist _), fun x hx => k.h2 x ((List.dropLast_sublist _).mem hx), by simp; omega⟩, fun x hx => .inl (hi x ((List.dropLast_sublist _).mem hx))⟩
      · exact add v2 (by omega) (by omega) (by omega)
      · exact add (100000 - v3) (by omega) (by omega) (by omega)
      · exact ⟨⟨k.r1, k.r2, k.r3, k.h1.sublist (List.filter_sublist), fun x hx => k.h2 x (List.mem_filter.mp hx).1, by have := List.length_filter_le (fun x : Int => !decide (x % 7 ∈ c.1)) c.2; simp only; omega⟩, fun x hx => .inl (hi x (List.mem_filter.mp hx).1)⟩
    obtain ⟨c', hc', rfl⟩ := List.mem_map.mp b4
    obtain ⟨g1, g2⟩ := key c' hc'
    have fin := hQ s4 c' a4 g1 g2
    simp [cs, enc] at e4
    simp [enc, e4]
    simpa [enc] using fin
  obtain ⟨a, e, s, c, h1, h2, h3, h5⟩ := h (fun r => ∃ (s : St) (c : Cal), s.ok ∧ CalOk c ∧ CalIn c ∧ r = (enc c, [.ref s.enc, .un])) fun s c h h' h'' => ⟨s, c, h, h', h'', rfl⟩
  exact ⟨s, c, h1, h2, h3, by rw [e, h5]⟩
end Xk36

namespace Xk36
open PySem PySem.Spec PyProof.Rows L2 GX
theorem filter_add {α : Type} (p : α → Bool) : ∀ l : List α, (l.filter (fun x => !p x)).length + (l.filter p).length = l.length
  | [] => rfl
  | x :: l => by
    have := filter_add p l
    cases h : p x <;> simp [List.filter_cons, h] <;> omega
theorem sh_i {i : Int} (h : -1000000000 ≤ i) (h2 : i ≤ 1000000000) : Sh 0 140 (.int i) (.int i) := sh_int i (by omega)
theorem alike_i {i : Int} (h : -1000000000 ≤ i) (h2 : i ≤ 1000000000) : Alike (.int i) (.int i) := alike_self (sh_i h h2) (by omega) (by omega)
theorem ok_late : PyData.strOk "late" = true := by decide +kernel
theorem ok_by : PyData.strOk "by" = true := by decide +kernel
theorem sz_late : ("late" : Str).cps.size = 4 := by decide +kernel
theorem sz_by : ("by" : Str).cps.size = 2 := by decide +kernel
theorem alike_late {i : Int} (h : -1000000000 ≤ i) (h2 : i ≤ 1000000000) : Alike (.tup [.str "late", .int i]) (.tup [.str "late", .int i]) :=
  alike_self (sh_tup (shL_cons (sh_str _ ok_late) (shL_cons (sh_i h h2) shL_nil))) (by omega) (by rw [sz_late]; omega)
theorem alike_by {i : Int} (h : -1000000000 ≤ i) (h2 : i ≤ 1000000000) : Alike (.tup [.str "by", .int i]) (.tup [.str "by", .int i]) :=
  alike_self (sh_tup (shL_cons (sh_str _ ok_by) (shL_cons (sh_i h h2) shL_nil))) (by omega) (by rw [sz_by]; omega)
theorem run_by_holds {s : St} (hs : s.ok) {c : Cal} (k : CalOk c) (d : Int) (d0 : 0 ≤ d) (d1 : d ≤ 1000) : ∃ s' : St, s'.ok ∧ _law_by_holdsF [.ref s.enc, .val (enc c), .val (.int d)] = some (.bl true, [.ref s'.enc, .un, .un]) := by
  have h : ∀ Q : PV × List Slot → Prop, (∀ (s : St), s.ok → Q (.bl true, [.ref s.enc, .un, .un])) → W (_law_by_holdsF [.ref s.enc, .val (enc c), .val (.int d)]) (Q := ⟨Q⟩) := fun Q hQ => by
    obtain ⟨s1, p1, a1, b1, e1⟩ := run_pick (o := true) hs (xs := [.int 3, .int 12]) (by simp) (by simp) (by simp)
    obtain ⟨m1, rfl, hm⟩ : ∃ m : Int, p1 = .int m ∧ 0 < m ∧ m ≤ 12 := by
      simp at b1
      rcases b1 with h | h
      · exact ⟨3, h, by omega⟩
      · exact ⟨12, h, by omega⟩
    obtain ⟨s2, v2, a2, b2, e2⟩ := run_draw a1 m1 (by omega) (by omega)
    obtain ⟨s3, v3, a3, b3, e3⟩ := run_draw a2 40 (by omega) (by omega)
    obtain ⟨s4, v4, a4, b4, e4⟩ := run_draw a3 60 (by omega) (by omega)
    obtain ⟨s5, p5, a5, b5, e5⟩ := run_pick (o := true) a4 (xs := [.int (d + v3), .int v4]) (by simp) (by simp) (by simp)
    obtain ⟨e, rfl, he⟩ : ∃ e : Int, p5 = .int e ∧ 0 ≤ e ∧ e ≤ 2000 := by
      simp at b5
      rcases b5 with h | h
      · exact ⟨_, h, by omega⟩
      · exact ⟨_, h, by omega⟩
    generalize hn : 1 + v2 = n
    have n0 : 1 ≤ n := by omega
    have n1 : n ≤ 12 := by omega
    have sm1 : smallI (d + 1) = true := smallI_of (by omega) (by omega)
    have sm2 : smallI (e + 1) = true := smallI_of (by omega) (by omega)
    let there := (irng (d + 1) (e + 1)).filter fun x => isOpen c x
    have lth : (there.length : Int) ≤ 2001 := by
      have := List.length_filter_le (fun x => isOpen c x) (irng (d + 1) (e + 1))
      simp only [irng_length] at this
      have q : there.length ≤ (e + 1 - (d + 1)).toNat := this
      omega
    have hjudge := run_judge_by k d n e d0 (by omega) n0 (by omega) he.1 (by omega)
    have memth : ∀ x ∈ there, (d < x ∧ x ≤ e) ∧ isOpen c x = true := fun x hx => by
      have q := List.mem_filter.mp hx
      have := irng_mem.mp q.1
      exact ⟨by omega, q.2⟩
    have sorted : there.Pairwise (· < ·) := irng_lt.sublist List.filter_sublist
    obtain ⟨L, hb⟩ := lst_ok k (cnt c (d.toNat + 1) + n)
    have gl : 1 ≤ cnt c (d.toNat + 1) + n := by have := cnt_nn c (d.toNat + 1); omega
    have full := L.full gl
    have lle := lst_le k (cnt c (d.toNat + 1) + n) e.toNat
    have cb := cnt_int (c := c) (d := d + 1) (by omega)
    have td : (d + 1).toNat = d.toNat + 1 := by omega
    have te : (e + 1).toNat = e.toNat + 1 := by omega
    have cb2 := cb.2
    rw [td] at cb2
    have lenth : (there.length : Int) = if d ≤ e then cnt c (e.toNat + 1) - cnt c (d.toNat + 1) else 0 := by
      by_cases q : d ≤ e
      · rw [if_pos q, ← te, ← td]
        exact filter_cntI c (by omega) (by omega)
      · rw [if_neg q]
        show ((List.length (List.filter _ (irng (d + 1) (e + 1))) : Nat) : Int) = 0
        rw [irng_nil (by omega)]
        rfl
    have mono : e < d → cnt c (e.toNat + 1) ≤ cnt c (d.toNat + 1) := fun q => (cnt_le c (by omega)).1
    simp [_law_by_holdsF, _law_by_holdsB, W_fn, e1, e2, e3, e4, e5, hn, _law_by_holds_c1, sm1, sm2]
    refine An.mk (by omega) (W_compB (fun x => isOpen c x) .int (fun x hx => ?_) ?_)
    · simp [run_law_open]
      refine Br.mk (fun h => ?_) fun h => ?_ <;> simp [h]
    have fold : List.filter (fun x => isOpen c x) (irng (d + 1) (e + 1)) = there := rfl
    simp [fold, hjudge]
    refine Br.mk (fun hle => ?_) fun hle => ?_
    · have r1 := run_accept_by k d n e there d0 (by omega) n0 (by omega) he.1 (by omega) (by omega) sorted (fun x hx => (memth x hx).1) (fun x hx => (memth x hx).2) hle
      have ht : ∀ x, x ∈ there.take n.toNat → x ∈ there := fun x hx => List.mem_of_mem_take hx
      have r2 := run_accept_by k d n e (there.take n.toNat) d0 (by omega) n0 (by omega) he.1 (by omega) (by simp; omega) (sorted.sublist (List.take_sublist ..)) (fun x hx => (memth x (ht x hx)).1) (fun x hx => (memth x (ht x hx)).2) (by simp; omega)
      have hj : judged c d n e = .tup [.str "by", .int ((there.length : Int) - n)] := by
        unfold judged
        have hde : d ≤ e := by
          refine Decidable.byContradiction fun q => ?_
          rw [if_neg q] at lenth
          omega
        rw [if_pos hde] at lenth
        have : lst c (cnt c (d.toNat + 1) + n) ≤ e.toNat := lle.mpr (by omega)
        simp only
        rw [if_neg (by omega), full.1, lenth]
        congr 3
        congr 1
        omega
      rw [List.map_take] at r2
      simp [r1, r2, show 0 ≤ n by omega, hj]
      rw [run_same rfl rfl (alike_by (by omega) (by omega))]
      simp
      exact hQ s5 a5
    · simp [_law_by_holds_c2, sm1, sm2]
      refine An.mk (by omega) (W_compB (fun x => !decide (x ∈ there)) .int (fun x hx => ?_) ?_)
      · by_cases hm : x ∈ there <;> simp [hm]
      have hnot : ∀ x ∈ (irng (d + 1) (e + 1)).filter (fun x => !decide (x ∈ there)), (d < x ∧ x ≤ e) ∧ isOpen c x = false := fun x hx => by
        have q := List.mem_filter.mp hx
        have r := irng_mem.mp q.1
        refine ⟨by omega, ?_⟩
        cases ho : isOpen c x
        · rfl
        · have : x ∈ there := List.mem_filter.mpr ⟨q.1, ho⟩
          have := q.2
          simp_all
      have hcount : ((irng (d + 1) (e + 1)).filter (fun x => !decide (x ∈ there))).length + there.length = (irng (d + 1) (e + 1)).length := by
        have e1 : (irng (d + 1) (e + 1)).filter (fun x => !decide (x ∈ there)) = (irng (d + 1) (e + 1)).filter (fun x => !isOpen c x) := by
          refine List.filter_congr fun x hx => ?_
          cases ho : isOpen c x
          · have : ¬ x ∈ there := fun h => by have := (List.mem_filter.mp h).2; rw [ho] at this; cases this
            simp [this]
          · have : x ∈ there := List.mem_filter.mpr ⟨hx, ho⟩
            simp [this]
        rw [e1]
        exact filter_add (fun x => isOpen c x) (irng (d + 1) (e + 1))
      rw [irng_length] at hcount
      generalize hrest : (irng (d + 1) (e + 1)).filter (fun x => !decide (x ∈ there)) = rest at hnot hcount
      have srt : rest.Pairwise (· < ·) := by rw [← hrest]; exact irng_lt.sublist List.filter_sublist
      have hlt : e.toNat < lst c (cnt c (d.toNat + 1) + n) := by
        refine Decidable.byContradiction fun q => ?_
        have := lle.mp (by omega)
        by_cases hde : d ≤ e
        · rw [if_pos hde] at lenth; omega
        · have := mono (by omega); omega
      have r1 := run_accept_late k d n e rest d0 (by omega) n0 (by omega) he.1 (by omega) (by omega) srt (fun x hx => (hnot x hx).1) (fun x hx => (hnot x hx).2) (by omega)
      have hj : judged c d n e = .tup [.str "late", .int (lst c (cnt c (d.toNat + 1) + n))] := by
        unfold judged
        simp only
        rw [if_pos (by omega)]
      simp [run_law_next k d n d0 n0, hj]
      rw [run_same rfl rfl (alike_late (by omega) (by omega))]
      simp [r1]
      exact hQ s5 a5
  obtain ⟨a, e, s, h1, h2⟩ := h (fun r => ∃ (s : St), s.ok ∧ r = (.bl true, [.ref s.enc, .un, .un])) fun s h => ⟨s, h, rfl⟩
  exact ⟨s, h1, by rw [e, h2]⟩
end Xk36

set_option maxHeartbeats 2000000
namespace Xk36
open PySem PySem.Spec PyProof.Rows L2 GX
theorem shO {o : Option Int} (h : ∀ i, o = some i → -1000000000 ≤ i ∧ i ≤ 1000000000) : ∃ d, Sh 0 140 (encO o) d := by
  cases o with
  | none => exact ⟨_, sh_non.mono (by omega) (by omega)⟩
  | some i => exact ⟨_, sh_i (h i rfl).1 (h i rfl).2⟩
theorem alike_O2 {o : Option (Int × Int)} (h : ∀ i j, o = some (i, j) → (-1000000000 ≤ i ∧ i ≤ 1000000000) ∧ -1000000000 ≤ j ∧ j ≤ 1000000000) : Alike (encO2 o) (encO2 o) := by
  match o, h with
  | none, _ => exact alike_self sh_non (by omega) (by omega)
  | some (i, j), h =>
    obtain ⟨⟨a, b⟩, c, d⟩ := h i j rfl
    exact alike_self (sh_tup (shL_cons (sh_i a b) (shL_cons (sh_i c d) shL_nil))) (by omega) (by omega)
theorem alike_bl (b : Bool) : Alike (.bl b) (.bl b) := alike_self (sh_bl b) (by omega) (by omega)
theorem restD_small (c : Cal) (a : Int) (a0 : 0 ≤ a) (a1 : a ≤ 100000) : ∀ n : Nat, n ≤ 100000 → (let l := (irng a (a + n)).foldl (stepL c) (none, 0); (0 ≤ l.2 ∧ l.2 ≤ n) ∧ ∀ i j, l.1 = some (i, j) → (0 ≤ i ∧ i ≤ 1000000) ∧ 0 ≤ j ∧ j ≤ 1000000)
  | 0, _ => by
    have : irng a (a + (0 : Nat)) = [] := irng_nil (by omega)
    rw [this]
    simp
  | n + 1, hn => by
    have e : a + ((n + 1 : Nat) : Int) = a + n + 1 := by omega
    have ih := restD_small c a a0 a1 n (by omega)
    rw [e, irng_snoc (by omega)]
    simp only [List.foldl_append, List.foldl_cons, List.foldl_nil] at ih ⊢
    generalize (irng a (a + n)).foldl (stepL c) (none, 0) = l at ih
    obtain ⟨best, row⟩ := l
    simp only at ih
    obtain ⟨⟨i1, i2⟩, i3⟩ := ih
    unfold stepL
    simp only
    generalize hr : (if isOpen c (a + n) = true then (0 : Int) else row + 1) = r
    have hr2 : 0 ≤ r ∧ r ≤ n + 1 := by rw [← hr]; split <;> omega
    refine ⟨by omega, fun i j h => ?_⟩
    split at h
    · cases best with
      | none => cases h; omega
      | some b =>
        obtain ⟨b1, b2⟩ := b
        simp only at h
        split at h
        · cases h; omega
        · cases h; exact i3 _ _ rfl
    · exact i3 _ _ h
theorem alike_rest (c : Cal) (a : Int) (a0 : 0 ≤ a) (a1 : a ≤ 1000) (n : Nat) (hn : n ≤ 1000) : Alike (encO2 (restD c a n)) (encO2 (restD c a n)) :=
  alike_O2 fun i j h => by have := (restD_small c a a0 (by omega) n (by omega)).2 i j h; omega
theorem lst_small {c : Cal} (k : CalOk c) (g : Int) (h : g ≤ 100000) : (0 : Int) ≤ lst c g ∧ (lst c g : Int) ≤ 1000000 := by
  have := (lst_ok k g).2
  omega
theorem moved_small {c : Cal} (k : CalOk c) (d : Int) (w : Str) (h0 : 0 ≤ d) (h1 : d ≤ 1000) : -1000000000 ≤ movedC c d w ∧ movedC c d w ≤ 1000000000 := by
  have q := cnt_int (c := c) h0
  have q2 := cnt_int (c := c) (d := d + 1) (by omega)
  have e : (d + 1).toNat = d.toNat + 1 := by omega
  rw [e] at q2
  have l1 := lst_small k (cnt c d.toNat + 1) (by omega)
  have l2 := lst_small k (cnt c (d.toNat + 1)) (by omega)
  unfold movedC lastD
  simp only
  by_cases z : cnt c (d.toNat + 1) = 0
  · rw [if_pos z]; simp only; omega
  · rw [if_neg z]
    simp only
    split
    · omega
    · split
      · omega
      · split <;> omega
/-- the names that the turns store -/
structure Ys where
  y5 : Slot
  y8 : Slot
  y9 : Slot
  y10 : Slot
  y11 : Slot
  y12 : Slot
  y13 : Slot
  y14 : Slot
  y15 : Slot
  y16 : Slot
structure Ys.ok (y : Ys) : Prop where
  h5 : y.y5.loc = true
  h8 : y.y8.loc = true
  p8 : y.y8.pure = true
  h9 : y.y9.loc = true
  h10 : y.y10.loc = true
  h11 : y.y11.loc = true
  h12 : y.y12.loc = true
  h13 : y.y13.loc = true
  h14 : y.y14.loc = true
  h15 : y.y15.loc = true
  p15 : y.y15.pure = true
  h16 : y.y16.loc = true
  p16 : y.y16.pure = true
def rho (ns : List Int) (s : St) (y2 y4 y6 y7 : Slot) (y : Ys) : Rho := [.val (.zls (ns.map .int)), .val s.enc, y2, .un, y4, y.y5, y6, y7, y.y8, y.y9, y.y10, y.y11, y.y12, y.y13, y.y14, y.y15, y.y16]
theorem run_inner {ns : List Int} {c : Cal} (k : CalOk c) {s : St} (hs : s.ok) {y2 y6 y7 : Slot} {y : Ys} (hy : y.ok) (Q : Out → Prop) (x : Int)
    (hQ : ∀ (s' : St) (y' : Ys), s'.ok → y'.ok → Q (.nx (rho ns s' y2 (.val (enc c)) y6 y7 y'))) : W (gNm 5 (.int x) (rho ns s y2 (.val (enc c)) y6 y7 y)) (Q := ⟨fun ρ1 => W (law_l1b ρ1) (Q := ⟨Q⟩)⟩) := by
  obtain ⟨y5, y8, y9, y10, y11, y12, y13, y14, y15, y16⟩ := y
  obtain ⟨h5, h8, p8, h9, h10, h11, h12, h13, h14, h15, p15, h16, p16⟩ := hy
  simp only at h5 h8 p8 h9 h10 h11 h12 h13 h14 h15 p15 h16 p16
  obtain ⟨s1, p1, a1, b1, e1⟩ := run_pick (o := true) hs (xs := [.int 9, .int 50, .int 130]) (by simp) (by simp) (by simp)
  obtain ⟨m1, rfl, hm1⟩ : ∃ m : Int, p1 = .int m ∧ 0 < m ∧ m ≤ 130 := by
    simp at b1
    rcases b1 with h | h | h <;> exact ⟨_, h, by omega⟩
  obtain ⟨s2, d, a2, hd, e2⟩ := run_draw a1 m1 (by omega) (by omega)
  obtain ⟨s3, p3, a3, b3, e3⟩ := run_pick (o := true) a2 (xs := [.int 2, .int 9, .int 30]) (by simp) (by simp) (by simp)
  obtain ⟨m3, rfl, hm3⟩ : ∃ m : Int, p3 = .int m ∧ 0 < m ∧ m ≤ 30 := by
    simp at b3
    rcases b3 with h | h | h <;> exact ⟨_, h, by omega⟩
  obtain ⟨s4, v4, a4, hv4, e4⟩ := run_draw a3 m3 (by omega) (by omega)
  obtain ⟨n, hn⟩ : ∃ n, 1 + v4 = n := ⟨_, rfl⟩
  have n0 : 1 ≤ n := by omega
  have n1 : n ≤ 30 := by omega
  have q := cnt_int (c := c) hd.1
  have q2 := cnt_int (c := c) (d := d + 1) (by omega)
  have td : (d + 1).toNat = d.toNat + 1 := by omega
  rw [td] at q2
  have l1 := lst_small k (cnt c (d.toNat + 1) + n) (by omega)
  simp [rho, law_l1b, h5, h8, h9, h10, e1, e2, e3, e4, hn, run_is_open k d hd.1 (by omega), run_add_open k d n hd.1 (by omega) n0 (by omega), run_take_open k d n hd.1 (by omega) n0 (by omega), run_law_open, run_law_next k d n hd.1 n0, run_law_last k d n hd.1 n0]
  have al1 : Alike (.lst true [.bl (isOpen c d), .int (lst c (cnt c (d.toNat + 1) + n)), encO (lawLast c d n)]) (.lst true [.bl (isOpen c d), .int (lst c (cnt c (d.toNat + 1) + n)), encO (lawLast c d n)]) := by
    obtain ⟨dd, hdd⟩ := shO (o := lawLast c d n) fun i h => by
      unfold lawLast at h
      split at h
      · cases h
      · cases h
        have := lst_small k (cnt c d.toNat - n + 1) (by omega)
        omega
    exact alike_self (sh_lst (shL_cons (sh_bl _) (shL_cons (sh_i (i := lst c (cnt c (d.toNat + 1) + n)) (by omega) (by omega)) (shL_cons hdd shL_nil)))) (by omega) (by omega)
  rw [run_same rfl rfl al1]
  obtain ⟨s5, p5, a5, b5, e5⟩ := run_pick (o := true) a4 (xs := [.int 1, .int 9, .int 60]) (by simp) (by simp) (by simp)
  obtain ⟨m5, rfl, hm5⟩ : ∃ m : Int, p5 = .int m ∧ 0 < m ∧ m ≤ 60 := by
    simp at b5
    rcases b5 with h | h | h <;> exact ⟨_, h, by omega⟩
  obtain ⟨s6, v6, a6, hv6, e6⟩ := run_draw a5 m5 (by omega) (by omega)
  obtain ⟨e, he⟩ : ∃ e, d + v6 = e := ⟨_, rfl⟩
  have sm1 : smallI d = true := smallI_of (by omega) (by omega)
  have sm2 : smallI e = true := smallI_of (by omega) (by omega)
  simp [e5, e6, he, h11, run_open_between k d e hd.1 (by omega) (by omega), law_c1, sm1, sm2, p16]
  refine An.mk (by omega) (W_compB (fun x => isOpen c x) .int (fun x hx => ?_) ?_)
  · simp [run_law_open]
    refine Br.mk (fun h => ?_) fun h => ?_ <;> simp [h]
  simp [filter_cntI c hd.1 (show d ≤ e by omega)]
  have ce := cnt_int (c := c) (d := e) (by omega)
  rw [run_same rfl rfl (alike_i (by omega) (by omega))]
  simp [run_longest_rest k d e hd.1 (by omega) (by omega) (by omega), run_law_rest c d e hd.1 (by omega) (by omega)]
  rw [run_same rfl rfl (alike_rest c d hd.1 (by omega) _ (by omega))]
  obtain ⟨s7, p7, a7, b7, e7⟩ := run_pick (o := true) a6 (xs := [.int 3, .int 12]) (by simp) (by simp) (by simp)
  obtain ⟨m7, rfl, hm7⟩ : ∃ m : Int, p7 = .int m ∧ 0 < m ∧ m ≤ 12 := by
    simp at b7
    rcases b7 with h | h <;> exact ⟨_, h, by omega⟩
  obtain ⟨s8, v8, a8, hv8, e8⟩ := run_draw a7 m7 (by omega) (by omega)
  obtain ⟨st, hst⟩ : ∃ st, 1 + v8 = st := ⟨_, rfl⟩
  obtain ⟨s9, p9, a9, b9, e9⟩ := run_pick (o := true) a8 (xs := [.str "following", .str "preceding", .str "nearest"]) (by simp) (by simp) (by simp)
  obtain ⟨way, rfl, hw⟩ : ∃ w : Str, p9 = .str w ∧ (w = "following" ∨ w = "preceding" ∨ w = "nearest") := by
    simp at b9
    rcases b9 with h | h | h
    · exact ⟨_, h, .inl rfl⟩
    · exact ⟨_, h, .inr (.inl rfl)⟩
    · exact ⟨_, h, .inr (.inr rfl)⟩
  have sm3 : smallI (n % 7) = true := smallI_of (by omega) (by omega)
  simp [e7, e8, hst, e9, h12, h13, law_c2, sm3, p15]
  refine An.mk (by omega) (W_compM (fun j => .int (movedC c (d + st * j) way)) (fun x hx => ?_) ?_)
  · have hx := irng_mem.mp hx
    have b1 : st * x ≤ 12 * 7 := Int.mul_le_mul (by omega) (by omega) hx.1 (by omega)
    have b0 : 0 ≤ st * x := Int.mul_nonneg (by omega) hx.1
    simp [mulOk_l (i := st) (j := x) (by omega), run_law_moved k (d + st * x) way (by omega) (by omega)]
  have en : ((n % 7).toNat : Int) = n % 7 := by omega
  simp [h14, run_moved k d way hd.1 (by omega) hw, en, run_due_days k d st (n % 7) way hd.1 (by omega) (by omega) (by omega) (by omega) (by omega) hw, run_law_moved k d way hd.1 (by omega)]
  have al2 : Alike (.lst true [.int (movedC c d way), .tup ((irng 0 (n % 7)).map fun j => .int (movedC c (d + st * j) way))]) (.lst true [.int (movedC c d way), .tup ((irng 0 (n % 7)).map fun j => .int (movedC c (d + st * j) way))]) := by
    have mv := moved_small k d way hd.1 (by omega)
    have hL : ShL 0 (141 * (irng 0 (n % 7)).length) ((irng 0 (n % 7)).map fun j => PV.int (movedC c (d + st * j) way)) ((irng 0 (n % 7)).map fun j => PyData.int (movedC c (d + st * j) way)) :=
      shL_map (k := 0) (n := 140) fun x hx => by
        have hx := irng_mem.mp hx
        have b1 : st * x ≤ 12 * 7 := Int.mul_le_mul (by omega) (by omega) hx.1 (by omega)
        have b0 : 0 ≤ st * x := Int.mul_nonneg (by omega) hx.1
        have mv := moved_small k (d + st * x) way (by omega) (by omega)
        exact sh_i mv.1 mv.2
    exact alike_self (sh_lst (shL_cons ((sh_i mv.1 mv.2).mono (k' := 1) (by omega) (Nat.le_refl _)) (shL_cons (sh_tup hL) shL_nil))) (by omega) (by rw [irng_length]; omega)
  rw [run_same rfl rfl al2]
  obtain ⟨s10, a10, e10⟩ := run_by_holds a9 k d hd.1 (by omega)
  simp [e10]
  exact hQ s10 ⟨_, _, _, _, _, _, _, _, y15, y16⟩ a10 ⟨rfl, rfl, rfl, rfl, rfl, rfl, rfl, rfl, rfl, h15, p15, h16, p16⟩
end Xk36

set_option maxHeartbeats 2000000
namespace Xk36
open PySem PySem.Spec PyProof.Rows L2 GX
theorem run_outer {ns : List Int} {s : St} (hs : s.ok) {y2 y4 y6 y7 : Slot} {y : Ys} (h2 : y2.loc = true) (h4 : y4.loc = true) (h6 : y6.loc = true) (h7 : y7.loc = true) (hy : y.ok) (Q : Out → Prop) (x : Int)
    (hQ : ∀ (s' : St) (y2 y4 y6 y7 : Slot) (y' : Ys), s'.ok → y2.loc = true → y4.loc = true → y6.loc = true → y7.loc = true → y'.ok → Q (.nx (rho ns s' y2 y4 y6 y7 y'))) : W (gNm 2 (.int x) (rho ns s y2 y4 y6 y7 y)) (Q := ⟨fun ρ1 => W (law_l2b ρ1) (Q := ⟨Q⟩)⟩) := by
  obtain ⟨s1, c, a1, k, i1, l1, e1⟩ := run_law_calendar hs
  have sm4 : smallI 4 = true := by decide
  simp [rho, h2, law_l2b, h4, e1, law_l1, sm4]
  refine W_forL (α := Int) (fun p q ρ => ∃ (s : St) (y : Ys), s.ok ∧ y.ok ∧ ρ = rho ns s (.val (.int x)) (.val (enc c)) y6 y7 y) ⟨s1, y, a1, hy, rfl⟩ (fun p z q ρ _ ⟨s, y, hs, hy, e⟩ => ?_) fun ρ ⟨s, y, hs, hy, e⟩ => ?_
  · subst e
    refine ⟨rfl, run_inner k hs hy _ z fun s' y' a b => ?_⟩
    simp
    exact ⟨s', a, y', b, rfl⟩
  subst e
  obtain ⟨s2, c', a2, k', i2, e2⟩ := run_law_other hs k i1 l1
  have sm140 : smallI 140 = true := by decide
  have smA : smallI 99990 = true := by decide
  have smB : smallI 100001 = true := by decide
  simp [rho, e2, h6, h7, law_c3, sm140, hy.p8]
  refine W_compB (fun d => !decide (isOpen c d = isOpen c' d)) .int (fun d hd => ?_) ?_
  · simp [run_law_open]
    refine Br.mk (fun h => ?_) fun h => ?_
    · simp [h]
    · simp [Decidable.not_not.mp h]
  have f1 := List.length_filter_le (fun d => !decide (isOpen c d = isOpen c' d)) (irng 0 140)
  have f2 := List.length_filter_le (fun d => !decide (isOpen c d = isOpen c' d)) (irng 99990 100001)
  rw [irng_length] at f1 f2
  simp [h7, law_c4, smA, smB, hy.p8]
  refine W_compB (fun d => !decide (isOpen c d = isOpen c' d)) .int (fun d hd => ?_) ?_
  · simp [run_law_open]
    refine Br.mk (fun h => ?_) fun h => ?_
    · simp [h]
    · simp [Decidable.not_not.mp h]
  simp
  refine An.mk (by omega) ?_
  rw [← List.map_append]
  have su := same_unl k k' (fun x hx => .inl (i1 x hx)) i2
  have fold : List.filter (fun d => !decide (isOpen c d = isOpen c' d)) (irng 0 140) ++ List.filter (fun d => !decide (isOpen c d = isOpen c' d)) (irng 99990 100001) = unl c c' := rfl
  rw [fold]
  simp [h7, run_same_days k k', su]
  rw [run_same rfl rfl (alike_bl _)]
  simp
  exact hQ s2 _ _ _ _ y a2 rfl rfl rfl rfl hy
theorem week_ok : CalOk ([5, 6], []) := ⟨by decide, by decide, by decide, by simp, by simp, by simp⟩
theorem cnt_wk {c : Cal} (k : CalOk c) (h : c.2 = []) (d : Nat) : cnt c d = wk c d := by
  rw [← ahead_eq k]
  unfold hol
  rw [h]
  simp
theorem wk_lst : lst ([5, 6], []) (cnt ([5, 6], []) 1 + 100000) = 140000 := by
  have e0 : cnt ([5, 6], []) 1 + 100000 = 100001 := by rw [cnt_wk week_ok rfl]; decide +kernel
  rw [e0]
  refine lst_eq ⟨?_, fun i hi => ?_⟩
  · rw [cnt_wk week_ok rfl]; decide +kernel
  · have h1 := (cnt_le ([5, 6], []) (show i + 1 ≤ 140000 by omega)).1
    have h2 : cnt ([5, 6], []) 140000 = 100000 := by rw [cnt_wk week_ok rfl]; decide +kernel
    omega
theorem moved_fol (c : Cal) (d : Int) : movedC c d "following" = lst c (cnt c d.toNat + 1) := by
  unfold movedC
  cases lastD c d <;> simp
theorem law_run (ns : List Int) (hn : ns.length ≤ 63) : ∃ ts, lawF [.val (.zls (ns.map .int))] = some (.bl true, ts) := by
  have h : W (lawF [.val (.zls (ns.map .int))]) (Q := ⟨fun r => r.1 = .bl true⟩) := by
    obtain ⟨s0, a0, e0⟩ := run_start ns
    have sm4 : smallI 4 = true := by decide
    simp [lawF, lawB, W_fn, e0, law_l2, sm4]
    refine W_forL (α := Int) (fun p q ρ => ∃ (s : St) (y2 y4 y6 y7 : Slot) (y : Ys), s.ok ∧ y2.loc = true ∧ y4.loc = true ∧ y6.loc = true ∧ y7.loc = true ∧ y.ok ∧ ρ = rho ns s y2 y4 y6 y7 y)
      ⟨s0, .un, .un, .un, .un, ⟨.un, .un, .un, .un, .un, .un, .un, .un, .un, .un⟩, a0, rfl, rfl, rfl, rfl, ⟨rfl, rfl, rfl, rfl, rfl, rfl, rfl, rfl, rfl, rfl, rfl, rfl, rfl⟩, rfl⟩ (fun p z q ρ _ ⟨s, y2, y4, y6, y7, y, hs, h2, h4, h6, h7, hy, e⟩ => ?_) fun ρ ⟨s, y2, y4, y6, y7, y, hs, h2, h4, h6, h7, hy, e⟩ => ?_
    · subst e
      refine ⟨rfl, run_outer hs h2 h4 h6 h7 hy _ z fun s' y2 y4 y6 y7 y' a g2 g4 g6 g7 gy => ?_⟩
      simp only [lopK_nx]
      exact ⟨s', y2, y4, y6, y7, y', a, g2, g4, g6, g7, gy, rfl⟩
    subst e
    have e1 := run_add_open week_ok 0 100000 (by omega) (by omega) (by omega) (by omega)
    have e2 := run_open_between week_ok 0 100000 (by omega) (by omega) (by omega)
    have k2 : CalOk ([], [100000]) := ⟨by simp, by simp, by simp, by simp, by simp, by simp⟩
    have e3 := run_moved k2 100000 "following" (by omega) (by omega) (.inl rfl)
    have c2 : cnt ([5, 6], []) 100000 = 71430 := by rw [cnt_wk week_ok rfl]; decide +kernel
    have c3 : cnt ([], [100000]) 100000 = 100000 := by rw [← ahead_eq k2]; decide +kernel
    have c4 : cnt ([], [100000]) 100001 = 100000 := by rw [← ahead_eq k2]; decide +kernel
    have c5 : cnt ([], [100000]) 100002 = 100001 := by rw [← ahead_eq k2]; decide +kernel
    have c6 : lst ([], [100000]) 100001 = 100001 := by
      refine lst_eq ⟨by rw [c5]; exact Int.le_refl _, fun i hi => ?_⟩
      have h1 := (cnt_le ([], [100000]) (show i + 1 ≤ 100001 by omega)).1
      omega
    have c0 : cnt ([5, 6], []) 0 = 0 := rfl
    have e4 : movedC ([], [100000]) 100000 "following" = 100001 := by
      rw [moved_fol]
      have t : (100000 : Int).toNat = 100000 := by decide
      rw [t, c3]
      have t2 : (100000 : Int) + 1 = 100001 := by decide
      rw [t2, c6]
      rfl
    simp [enc] at e1 e2 e3
    rw [wk_lst] at e1
    rw [c2, c0] at e2
    rw [e4] at e3
    simp [rho, e1, e2, e3]
    have al : Alike (.lst true [.int 140000, .int 71430, .int 100001]) (.lst true [.int 140000, .int 71430, .int 100001]) :=
      alike_self (sh_lst (shL_cons (sh_i (by omega) (by omega)) (shL_cons (sh_i (by omega) (by omega)) (shL_cons (sh_i (by omega) (by omega)) shL_nil)))) (by omega) (by omega)
    rw [run_same rfl rfl al]
    simp
  obtain ⟨⟨v, ts⟩, e, h1⟩ := h
  simp only at h1
  subst h1
  exact ⟨ts, e⟩
end Xk36

open PySem PySem.W PyProof.Rows
set_option maxHeartbeats 0 in
theorem PySem.Challenge.cw_owedthen_k36_days_of_business_holds : PySem.Challenge.rw_owedthen_k36_days_of_business.Holds := by
  w_on; o_law; k_head; (case hw => w_witness2)
  k_fill
  refine GX.walk_go (l := PySem.Challenge.rw_owedthen_k36_days_of_business) (n := 63) (k := 5) (x := "script") rfl (by decide) rfl ⟨rfl, by decide, by decide⟩ (fun w h Y => PySem.W.kIn_of Y) ?F
  case F =>
    intro w mg fa h KX G hmg
    have t0 : ∃ f fd, GX.Fk (L2.KOf KX) mg "_law_start" Xk36.s__law_start ["script"] f fd := by
      refine' ⟨_, _, GX.fk_mk KX G ?a ?l ?c ?k ?b⟩
      (case a => k_is); (case l => k_is); (case c => k_is); (case k => k_is)
      (case b => exact fun _ _ _ _ _ _ us hl => match us, hl with | [_], _ => rfl)
    have t1 : ∃ f fd, GX.Fk (L2.KOf KX) mg "_law_same" Xk36.s__law_same ["actual", "due"] f fd := by
      refine' ⟨_, _, GX.fk_mk KX G ?a ?l ?c ?k ?b⟩
      (case a => k_is); (case l => k_is); (case c => k_is); (case k => k_is)
      (case b => exact fun _ _ _ _ _ _ us hl => match us, hl with | [_, _], _ => rfl)
    have t2 : ∃ f fd, GX.Fk (L2.KOf KX) mg "_law_draw" Xk36.s__law_draw ["state", "many"] f fd := by
      refine' ⟨_, _, GX.fk_mk KX G ?a ?l ?c ?k ?b⟩
      (case a => k_is); (case l => k_is); (case c => k_is); (case k => k_is)
      (case b => exact fun _ _ _ _ _ _ us hl => match us, hl with | [_, _], _ => rfl)
    have t3 : ∃ f fd, GX.Fk (L2.KOf KX) mg "_law_rising" Xk36.s__law_rising ["state", "most", "many"] f fd := by
      refine' ⟨_, _, GX.fk_mk KX G ?a ?l ?c ?k ?b⟩
      (case a => k_is); (case l => k_is); (case c => k_is); (case k => k_is)
      (case b => exact fun _ _ _ _ _ _ us hl => match us, hl with | [_, _, _], _ => rfl)
    have t4 : ∃ f fd, GX.Fk (L2.KOf KX) mg "_law_pick" Xk36.s__law_pick ["state", "some"] f fd := by
      refine' ⟨_, _, GX.fk_mk KX G ?a ?l ?c ?k ?b⟩
      (case a => k_is); (case l => k_is); (case c => k_is); (case k => k_is)
      (case b => exact fun _ _ _ _ _ _ us hl => match us, hl with | [_, _], _ => rfl)
    have t5 : ∃ f fd, GX.Fk (L2.KOf KX) mg "_law_calendar" Xk36.s__law_calendar ["state"] f fd := by
      refine' ⟨_, _, GX.fk_mk KX G ?a ?l ?c ?k ?b⟩
      (case a => k_is); (case l => k_is); (case c => k_is); (case k => k_is)
      (case b => exact fun _ _ _ _ _ _ us hl => match us, hl with | [_], _ => rfl)
    have t6 : ∃ f fd, GX.Fk (L2.KOf KX) mg "_law_other" Xk36.s__law_other ["state", "calendar"] f fd := by
      refine' ⟨_, _, GX.fk_mk KX G ?a ?l ?c ?k ?b⟩
      (case a => k_is); (case l => k_is); (case c => k_is); (case k => k_is)
      (case b => exact fun _ _ _ _ _ _ us hl => match us, hl with | [_, _], _ => rfl)
    have t7 : ∃ f fd, GX.Fk (L2.KOf KX) mg "rising" Xk36.s_rising ["row"] f fd := by
      refine' ⟨_, _, GX.fk_mk KX G ?a ?l ?c ?k ?b⟩
      (case a => k_is); (case l => k_is); (case c => k_is); (case k => k_is)
      (case b => exact fun _ _ _ _ _ _ us hl => match us, hl with | [_], _ => rfl)
    have t8 : ∃ f fd, GX.Fk (L2.KOf KX) mg "is_integer" Xk36.s_is_integer ["value"] f fd := by
      refine' ⟨_, _, GX.fk_mk KX G ?a ?l ?c ?k ?b⟩
      (case a => k_is); (case l => k_is); (case c => k_is); (case k => k_is)
      (case b => exact fun _ _ _ _ _ _ us hl => match us, hl with | [_], _ => rfl)
    have t9 : ∃ f fd, GX.Fk (L2.KOf KX) mg "check_calendar" Xk36.s_check_calendar ["calendar"] f fd := by
      refine' ⟨_, _, GX.fk_mk KX G ?a ?l ?c ?k ?b⟩
      (case a => k_is); (case l => k_is); (case c => k_is); (case k => k_is)
      (case b => exact fun _ _ _ _ _ _ us hl => match us, hl with | [_], _ => rfl)
    have t10 : ∃ f fd, GX.FkD (L2.KOf KX) mg "check_day" Xk36.s_check_day ["day", "reason"] (.str "day") f fd := by
      refine' ⟨_, _, GX.fkD_mk KX G ?a ?l ?c ?k ?t ?d ?v ?b0 ?b1 ?lp⟩
      (case a => k_is); (case l => k_is); (case c => k_is); (case k => k_is); (case t => k_is); (case d => rfl); (case v => exact .cons ⟨_, rfl⟩ .nil)
      (case b0 => exact fun _ _ _ _ _ _ _ us its hl hi => match us, its, hl, hi with | [_, _], [_], _, _ => ⟨_, rfl, rfl⟩)
      (case b1 => exact fun _ _ _ _ _ _ _ us its hl hi => match us, its, hl, hi with | [_], [_], _, _ => ⟨_, rfl, rfl⟩)
      (case lp => decide)
    have t11 : ∃ f fd, GX.Fk (L2.KOf KX) mg "check_count" Xk36.s_check_count ["count"] f fd := by
      refine' ⟨_, _, GX.fk_mk KX G ?a ?l ?c ?k ?b⟩
      (case a => k_is); (case l => k_is); (case c => k_is); (case k => k_is)
      (case b => exact fun _ _ _ _ _ _ us hl => match us, hl with | [_], _ => rfl)
    have t12 : ∃ f fd, GX.Fk (L2.KOf KX) mg "open_ahead" Xk36.s_open_ahead ["calendar", "day"] f fd := by
      refine' ⟨_, _, GX.fk_mk KX G ?a ?l ?c ?k ?b⟩
      (case a => k_is); (case l => k_is); (case c => k_is); (case k => k_is)
      (case b => exact fun _ _ _ _ _ _ us hl => match us, hl with | [_, _], _ => rfl)
    have t13 : ∃ f fd, GX.Fk (L2.KOf KX) mg "with_ahead" Xk36.s_with_ahead ["calendar", "goal"] f fd := by
      refine' ⟨_, _, GX.fk_mk KX G ?a ?l ?c ?k ?b⟩
      (case a => k_is); (case l => k_is); (case c => k_is); (case k => k_is)
      (case b => exact fun _ _ _ _ _ _ us hl => match us, hl with | [_, _], _ => rfl)
    have t14 : ∃ f fd, GX.Fk (L2.KOf KX) mg "add_open" Xk36.s_add_open ["calendar", "day", "count"] f fd := by
      refine' ⟨_, _, GX.fk_mk KX G ?a ?l ?c ?k ?b⟩
      (case a => k_is); (case l => k_is); (case c => k_is); (case k => k_is)
      (case b => exact fun _ _ _ _ _ _ us hl => match us, hl with | [_, _, _], _ => rfl)
    have t15 : ∃ f fd, GX.Fk (L2.KOf KX) mg "open_between" Xk36.s_open_between ["calendar", "first", "last"] f fd := by
      refine' ⟨_, _, GX.fk_mk KX G ?a ?l ?c ?k ?b⟩
      (case a => k_is); (case l => k_is); (case c => k_is); (case k => k_is)
      (case b => exact fun _ _ _ _ _ _ us hl => match us, hl with | [_, _, _], _ => rfl)
    have t16 : ∃ f fd, GX.Fk (L2.KOf KX) mg "open_on" Xk36.s_open_on ["calendar", "day"] f fd := by
      refine' ⟨_, _, GX.fk_mk KX G ?a ?l ?c ?k ?b⟩
      (case a => k_is); (case l => k_is); (case c => k_is); (case k => k_is)
      (case b => exact fun _ _ _ _ _ _ us hl => match us, hl with | [_, _], _ => rfl)
    have t17 : ∃ f fd, GX.Fk (L2.KOf KX) mg "next_open" Xk36.s_next_open ["calendar", "day"] f fd := by
      refine' ⟨_, _, GX.fk_mk KX G ?a ?l ?c ?k ?b⟩
      (case a => k_is); (case l => k_is); (case c => k_is); (case k => k_is)
      (case b => exact fun _ _ _ _ _ _ us hl => match us, hl with | [_, _], _ => rfl)
    have t18 : ∃ f fd, GX.Fk (L2.KOf KX) mg "last_open" Xk36.s_last_open ["calendar", "day"] f fd := by
      refine' ⟨_, _, GX.fk_mk KX G ?a ?l ?c ?k ?b⟩
      (case a => k_is); (case l => k_is); (case c => k_is); (case k => k_is)
      (case b => exact fun _ _ _ _ _ _ us hl => match us, hl with | [_, _], _ => rfl)
    have t19 : ∃ f fd, GX.Fk (L2.KOf KX) mg "moved_to" Xk36.s_moved_to ["calendar", "day", "way"] f fd := by
      refine' ⟨_, _, GX.fk_mk KX G ?a ?l ?c ?k ?b⟩
      (case a => k_is); (case l => k_is); (case c => k_is); (case k => k_is)
      (case b => exact fun _ _ _ _ _ _ us hl => match us, hl with | [_, _, _], _ => rfl)
    have t20 : ∃ f fd, GX.Fk (L2.KOf KX) mg "moved" Xk36.s_moved ["calendar", "day", "way"] f fd := by
      refine' ⟨_, _, GX.fk_mk KX G ?a ?l ?c ?k ?b⟩
      (case a => k_is); (case l => k_is); (case c => k_is); (case k => k_is)
      (case b => exact fun _ _ _ _ _ _ us hl => match us, hl with | [_, _, _], _ => rfl)
    have t21 : ∃ f fd, GX.Fk (L2.KOf KX) mg "is_open" Xk36.s_is_open ["calendar", "day"] f fd := by
      refine' ⟨_, _, GX.fk_mk KX G ?a ?l ?c ?k ?b⟩
      (case a => k_is); (case l => k_is); (case c => k_is); (case k => k_is)
      (case b => exact fun _ _ _ _ _ _ us hl => match us, hl with | [_, _], _ => rfl)
    have t22 : ∃ f fd, GX.Fk (L2.KOf KX) mg "take_open" Xk36.s_take_open ["calendar", "day", "count"] f fd := by
      refine' ⟨_, _, GX.fk_mk KX G ?a ?l ?c ?k ?b⟩
      (case a => k_is); (case l => k_is); (case c => k_is); (case k => k_is)
      (case b => exact fun _ _ _ _ _ _ us hl => match us, hl with | [_, _, _], _ => rfl)
    have t23 : ∃ f fd, GX.Fk (L2.KOf KX) mg "judge_by" Xk36.s_judge_by ["calendar", "begin", "count", "end"] f fd := by
      refine' ⟨_, _, GX.fk_mk KX G ?a ?l ?c ?k ?b⟩
      (case a => k_is); (case l => k_is); (case c => k_is); (case k => k_is)
      (case b => exact fun _ _ _ _ _ _ us hl => match us, hl with | [_, _, _, _], _ => rfl)
    have t24 : ∃ f fd, GX.Fk (L2.KOf KX) mg "_law_open" Xk36.s__law_open ["calendar", "day"] f fd := by
      refine' ⟨_, _, GX.fk_mk KX G ?a ?l ?c ?k ?b⟩
      (case a => k_is); (case l => k_is); (case c => k_is); (case k => k_is)
      (case b => exact fun _ _ _ _ _ _ us hl => match us, hl with | [_, _], _ => rfl)
    have t25 : ∃ f fd, GX.Fk (L2.KOf KX) mg "accept_late" Xk36.s_accept_late ["calendar", "begin", "count", "end", "days"] f fd := by
      refine' ⟨_, _, GX.fk_mk KX G ?a ?l ?c ?k ?b⟩
      (case a => k_is); (case l => k_is); (case c => k_is); (case k => k_is)
      (case b => exact fun _ _ _ _ _ _ us hl => match us, hl with | [_, _, _, _, _], _ => rfl)
    have t26 : ∃ f fd, GX.Fk (L2.KOf KX) mg "accept_by" Xk36.s_accept_by ["calendar", "begin", "count", "end", "days"] f fd := by
      refine' ⟨_, _, GX.fk_mk KX G ?a ?l ?c ?k ?b⟩
      (case a => k_is); (case l => k_is); (case c => k_is); (case k => k_is)
      (case b => exact fun _ _ _ _ _ _ us hl => match us, hl with | [_, _, _, _, _], _ => rfl)
    have t27 : ∃ f fd, GX.Fk (L2.KOf KX) mg "_law_next" Xk36.s__law_next ["calendar", "day", "many"] f fd := by
      refine' ⟨_, _, GX.fk_mk KX G ?a ?l ?c ?k ?b⟩
      (case a => k_is); (case l => k_is); (case c => k_is); (case k => k_is)
      (case b => exact fun _ _ _ _ _ _ us hl => match us, hl with | [_, _, _], _ => rfl)
    have t28 : ∃ f fd, GX.Fk (L2.KOf KX) mg "_law_by_holds" Xk36.s__law_by_holds ["state", "calendar", "day"] f fd := by
      refine' ⟨_, _, GX.fk_mk KX G ?a ?l ?c ?k ?b⟩
      (case a => k_is); (case l => k_is); (case c => k_is); (case k => k_is)
      (case b => exact fun _ _ _ _ _ _ us hl => match us, hl with | [_, _, _], _ => rfl)
    have t29 : ∃ f fd, GX.Fk (L2.KOf KX) mg "same_days" Xk36.s_same_days ["first", "second"] f fd := by
      refine' ⟨_, _, GX.fk_mk KX G ?a ?l ?c ?k ?b⟩
      (case a => k_is); (case l => k_is); (case c => k_is); (case k => k_is)
      (case b => exact fun _ _ _ _ _ _ us hl => match us, hl with | [_, _], _ => rfl)
    have t30 : ∃ f fd, GX.Fk (L2.KOf KX) mg "longest_rest" Xk36.s_longest_rest ["calendar", "first", "last"] f fd := by
      refine' ⟨_, _, GX.fk_mk KX G ?a ?l ?c ?k ?b⟩
      (case a => k_is); (case l => k_is); (case c => k_is); (case k => k_is)
      (case b => exact fun _ _ _ _ _ _ us hl => match us, hl with | [_, _, _], _ => rfl)
    have t31 : ∃ f fd, GX.Fk (L2.KOf KX) mg "_law_rest" Xk36.s__law_rest ["calendar", "first", "last"] f fd := by
      refine' ⟨_, _, GX.fk_mk KX G ?a ?l ?c ?k ?b⟩
      (case a => k_is); (case l => k_is); (case c => k_is); (case k => k_is)
      (case b => exact fun _ _ _ _ _ _ us hl => match us, hl with | [_, _, _], _ => rfl)
    have t32 : ∃ f fd, GX.Fk (L2.KOf KX) mg "_law_last" Xk36.s__law_last ["calendar", "day", "many"] f fd := by
      refine' ⟨_, _, GX.fk_mk KX G ?a ?l ?c ?k ?b⟩
      (case a => k_is); (case l => k_is); (case c => k_is); (case k => k_is)
      (case b => exact fun _ _ _ _ _ _ us hl => match us, hl with | [_, _, _], _ => rfl)
    have t33 : ∃ f fd, GX.Fk (L2.KOf KX) mg "_law_moved" Xk36.s__law_moved ["calendar", "day", "way"] f fd := by
      refine' ⟨_, _, GX.fk_mk KX G ?a ?l ?c ?k ?b⟩
      (case a => k_is); (case l => k_is); (case c => k_is); (case k => k_is)
      (case b => exact fun _ _ _ _ _ _ us hl => match us, hl with | [_, _, _], _ => rfl)
    have t34 : ∃ f fd, GX.Fk (L2.KOf KX) mg "due_days" Xk36.s_due_days ["calendar", "first", "step", "count", "way"] f fd := by
      refine' ⟨_, _, GX.fk_mk KX G ?a ?l ?c ?k ?b⟩
      (case a => k_is); (case l => k_is); (case c => k_is); (case k => k_is)
      (case b => exact fun _ _ _ _ _ _ us hl => match us, hl with | [_, _, _, _, _], _ => rfl)
    have t35 : ∃ f fd, GX.Fk (L2.KOf KX) mg "law" Xk36.s_law ["script"] f fd := by
      refine' ⟨_, _, GX.fk_mk KX G ?a ?l ?c ?k ?b⟩
      (case a => k_is); (case l => k_is); (case c => k_is); (case k => k_is)
      (case b => exact fun _ _ _ _ _ _ us hl => match us, hl with | [_], _ => rfl)
    have c_MAX_ROWS : GX.Ck (L2.KOf KX) mg "MAX_ROWS" Xk36.k_MAX_ROWS := by
      refine' GX.ck_int KX G ?a; (case a => k_is)
    have c_MAX_TIME : GX.Ck (L2.KOf KX) mg "MAX_TIME" Xk36.k_MAX_TIME := by
      refine' GX.ck_int KX G ?a; (case a => k_is)
    have c_WAYS : GX.Ck (L2.KOf KX) mg "WAYS" Xk36.k_WAYS := by
      refine' GX.ck_tup (ys := [.str "following", .str "preceding", .str "nearest"]) KX G ?a ?l ?c ?d ?z ?v ?r
      (case a => k_is); (case l => k_is); (case c => rfl); (case d => rfl); (case z => decide); (case v => exact .cons ⟨_, rfl⟩ <| .cons ⟨_, rfl⟩ <| .cons ⟨_, rfl⟩ <| .nil); (case r => exact fun _ _ => .cons (F := []) (.str _) <| .cons (F := []) (.str _) <| .cons (F := []) (.str _) <| .nil)
    have n_int : mg "int" = none := by
      refine' PySem.W.mg_none_of KX G ?a; (case a => k_is)
    have n_list : mg "list" = none := by
      refine' PySem.W.mg_none_of KX G ?a; (case a => k_is)
    have n_repr : mg "repr" = none := by
      refine' PySem.W.mg_none_of KX G ?a; (case a => k_is)
    have n_len : mg "len" = none := by
      refine' PySem.W.mg_none_of KX G ?a; (case a => k_is)
    have n_abs : mg "abs" = none := by
      refine' PySem.W.mg_none_of KX G ?a; (case a => k_is)
    have n_tuple : mg "tuple" = none := by
      refine' PySem.W.mg_none_of KX G ?a; (case a => k_is)
    have n_sorted : mg "sorted" = none := by
      refine' PySem.W.mg_none_of KX G ?a; (case a => k_is)
    have n_set : mg "set" = none := by
      refine' PySem.W.mg_none_of KX G ?a; (case a => k_is)
    have n_range : mg "range" = none := by
      refine' PySem.W.mg_none_of KX G ?a; (case a => k_is)
    have n_all : mg "all" = none := by
      refine' PySem.W.mg_none_of KX G ?a; (case a => k_is)
    have n_isinstance : mg "isinstance" = none := by
      refine' PySem.W.mg_none_of KX G ?a; (case a => k_is)
    have n_bool : mg "bool" = none := by
      refine' PySem.W.mg_none_of KX G ?a; (case a => k_is)
    have n_str : mg "str" = none := by
      refine' PySem.W.mg_none_of KX G ?a; (case a => k_is)
    have n_any : mg "any" = none := by
      refine' PySem.W.mg_none_of KX G ?a; (case a => k_is)
    have n_max : mg "max" = none := by
      refine' PySem.W.mg_none_of KX G ?a; (case a => k_is)
    obtain ⟨a0, d0, t0⟩ := t0
    obtain ⟨a1, d1, t1⟩ := t1
    obtain ⟨a2, d2, t2⟩ := t2
    obtain ⟨a3, d3, t3⟩ := t3
    obtain ⟨a4, d4, t4⟩ := t4
    obtain ⟨a5, d5, t5⟩ := t5
    obtain ⟨a6, d6, t6⟩ := t6
    obtain ⟨a7, d7, t7⟩ := t7
    obtain ⟨a8, d8, t8⟩ := t8
    obtain ⟨a9, d9, t9⟩ := t9
    obtain ⟨a10, d10, t10⟩ := t10
    obtain ⟨a11, d11, t11⟩ := t11
    obtain ⟨a12, d12, t12⟩ := t12
    obtain ⟨a13, d13, t13⟩ := t13
    obtain ⟨a14, d14, t14⟩ := t14
    obtain ⟨a15, d15, t15⟩ := t15
    obtain ⟨a16, d16, t16⟩ := t16
    obtain ⟨a17, d17, t17⟩ := t17
    obtain ⟨a18, d18, t18⟩ := t18
    obtain ⟨a19, d19, t19⟩ := t19
    obtain ⟨a20, d20, t20⟩ := t20
    obtain ⟨a21, d21, t21⟩ := t21
    obtain ⟨a22, d22, t22⟩ := t22
    obtain ⟨a23, d23, t23⟩ := t23
    obtain ⟨a24, d24, t24⟩ := t24
    obtain ⟨a25, d25, t25⟩ := t25
    obtain ⟨a26, d26, t26⟩ := t26
    obtain ⟨a27, d27, t27⟩ := t27
    obtain ⟨a28, d28, t28⟩ := t28
    obtain ⟨a29, d29, t29⟩ := t29
    obtain ⟨a30, d30, t30⟩ := t30
    obtain ⟨a31, d31, t31⟩ := t31
    obtain ⟨a32, d32, t32⟩ := t32
    obtain ⟨a33, d33, t33⟩ := t33
    obtain ⟨a34, d34, t34⟩ := t34
    obtain ⟨a35, d35, t35⟩ := t35
    have T : Xk36.Tab (L2.KOf KX) mg (fun i => [a0, a1, a2, a3, a4, a5, a6, a7, a8, a9, a10, a11, a12, a13, a14, a15, a16, a17, a18, a19, a20, a21, a22, a23, a24, a25, a26, a27, a28, a29, a30, a31, a32, a33, a34, a35].getD i 0) (fun i => [d0, d1, d2, d3, d4, d5, d6, d7, d8, d9, d10, d11, d12, d13, d14, d15, d16, d17, d18, d19, d20, d21, d22, d23, d24, d25, d26, d27, d28, d29, d30, d31, d32, d33, d34, d35].getD i d0) := ⟨t0, t1, t2, t3, t4, t5, t6, t7, t8, t9, t10, t11, t12, t13, t14, t15, t16, t17, t18, t19, t20, t21, t22, t23, t24, t25, t26, t27, t28, t29, t30, t31, t32, t33, t34, t35, c_MAX_ROWS, c_MAX_TIME, c_WAYS, n_int, n_list, n_repr, n_len, n_abs, n_tuple, n_sorted, n_set, n_range, n_all, n_isinstance, n_bool, n_str, n_any, n_max⟩
    exact GX.fin_go (lf := Xk36.lawF) T.f_law hmg (fun base => Xk36.ok_law T) Xk36.law_run
