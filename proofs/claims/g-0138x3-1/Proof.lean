import JvmDerived
import JvmDerived.Pilot.@@N@@Statement
import JvmDerived.Pilot.@@N@@Code
set_option linter.unusedVariables false
set_option linter.unusedSimpArgs false
namespace Jvm.RoadKit
open Sem ClassFile Op Lib Jvm.Stand Jvm.Free Jvm.LawKit
section New
variable {p : Program} {l : Launch} {e : Env} {R : Room} {s : State} {m : MethodId} {args : Array Value} {below : List Frame} {meth : Method} {c : Code} {T : State} {locs : List Loc} {cells slots : Nat}
theorem retI (X : Stand p l e R s m args below meth c T locs cells slots) (hx : p.tables.exec = Jvm.exec) {pc : Nat} {Ls : Array Slot} {z : Int32} {rest : List Value} (hret : meth.sig.returnType = some .int) (hd : decode c.code pc = .ok (.ireturn, 1)) {fs : List Frame}
    (hl : ∀ (f : JFrame) (acts : List Action), f.method = m → f.locked = none → f.entered = [] → (doReturn e (T.setTop f) acts (some (.int z))).1 = T.setFrames fs) : Steps p.tables e below (T.setTop (mkF m pc Ls (.int z :: rest))) (T.setFrames fs) := by
  have hm' : T.vm.method? m = some meth := X.method'
  have hn : narrow .int (.int z) = .int z := rfl
  show Steps p.tables e below (T.setTop { method := m, pc := pc, locals := Ls, stack := _ :: rest, locked := none }) _
  jvm_step X.here [X.here.top, hx, hd, hm', hret, hn]
  first | (intro acts; rw [hl _ acts rfl rfl rfl]) | rw [hl _ _ rfl rfl rfl]
  exact Steps.refl _
end New
end Jvm.RoadKit
namespace Jvm.Pilot.@@N@@
open Jvm Jvm.ClassFile Sem Op Lib Jvm.Free Jvm.Stand Jvm.LawKit Jvm.RoadKit Bundle Jvm.Pilot.@@N@@.Jvm.D
/- records: scalars, int-like arrays, long arrays -/
abbrev Rec : Type := (Nat → Int32) × (Nat → Int32 → Int32) × (Nat → Int32 → Int64)
def zrec : Rec := (fun _ => 0, fun _ _ => 0, fun _ _ => 0)
def gI (ob : Rec) (k : Nat) : Int32 := ob.1 k
def gA (ob : Rec) (k : Nat) (i : Int32) : Int32 := ob.2.1 k i
def gJ (ob : Rec) (k : Nat) (i : Int32) : Int64 := ob.2.2 k i
def sI (ob : Rec) (k : Nat) (v : Int32) : Rec := (fun j => if j = k then v else ob.1 j, ob.2)
def sA (ob : Rec) (k : Nat) (i v : Int32) : Rec := (ob.1, fun j x => if j = k ∧ x = i then v else ob.2.1 j x, ob.2.2)
def sJ (ob : Rec) (k : Nat) (i : Int32) (v : Int64) : Rec := (ob.1, ob.2.1, fun j x => if j = k ∧ x = i then v else ob.2.2 j x)
def chk {γ : Type} (n i : Int32) (A : Option γ) : Option γ := if i < 0 then none else if i < n then A else none
def dvz {γ : Type} (y : Int32) (A : Option γ) : Option γ := if y = 0 then none else A
def bind2 {α β γ : Type} (o : Option (α × β)) (f : α → β → Option γ) : Option γ := o.bind fun q => f q.1 q.2
def bind3 {α β γ δ : Type} (o : Option (α × β × δ)) (f : α → β → δ → Option γ) : Option γ := o.bind fun q => f q.1 q.2.1 q.2.2
theorem ite_el {c : Prop} [Decidable c] {γ : Type} {A B : Option γ} {r : γ} {Q : Prop} (h : (if c then A else B) = some r) (t : c → A = some r → Q) (e : ¬ c → B = some r → Q) : Q := by
  by_cases hc : c
  · rw [if_pos hc] at h; exact t hc h
  · rw [if_neg hc] at h; exact e hc h
theorem bind_el {α γ : Type} {o : Option α} {f : α → Option γ} {r : γ} {Q : Prop} (h : o.bind f = some r) (k : ∀ x, o = some x → f x = some r → Q) : Q := by
  cases o with
  | none => cases h
  | some x => exact k x rfl h
theorem bind2_el {α β γ : Type} {o : Option (α × β)} {f : α → β → Option γ} {r : γ} {Q : Prop} (h : bind2 o f = some r) (k : ∀ x y, o = some (x, y) → f x y = some r → Q) : Q := by
  rcases o with _ | ⟨x, y⟩
  · cases h
  · exact k x y rfl h
theorem bind3_el {α β γ δ : Type} {o : Option (α × β × δ)} {f : α → β → δ → Option γ} {r : γ} {Q : Prop} (h : bind3 o f = some r) (k : ∀ x y z, o = some (x, y, z) → f x y z = some r → Q) : Q := by
  rcases o with _ | ⟨x, y, z⟩
  · cases h
  · exact k x y z rfl h
theorem chk_el {γ : Type} {n i : Int32} {A : Option γ} {r : γ} {Q : Prop} (h : chk n i A = some r) (k : (¬ i < 0 ∧ i < n) → A = some r → Q) : Q := by
  unfold chk at h
  by_cases h0 : i < 0
  · rw [if_pos h0] at h; cases h
  · rw [if_neg h0] at h
    by_cases h1 : i < n
    · rw [if_pos h1] at h; exact k ⟨h0, h1⟩ h
    · rw [if_neg h1] at h; cases h
theorem dvz_el {γ : Type} {y : Int32} {A : Option γ} {r : γ} {Q : Prop} (h : dvz y A = some r) (k : y ≠ 0 → A = some r → Q) : Q := by
  unfold dvz at h
  by_cases h0 : y = 0
  · rw [if_pos h0] at h; cases h
  · rw [if_neg h0] at h; exact k h0 h
def All {α : Type} (p : α → Prop) : List α → Prop
  | [] => True
  | x :: l => p x ∧ All p l
theorem All.mem {α : Type} {p : α → Prop} : ∀ {l : List α}, All p l → ∀ {x : α}, x ∈ l → p x
  | [], _, _, h => nomatch h
  | _ :: _, H, _, h => (List.mem_cons.mp h).elim (fun e => e ▸ H.1) (fun e => All.mem H.2 e)
def el (ty : FieldType) (ob : Rec) (k : Nat) (j : Int32) : Value := match ty with
  | .long => .long (ob.2.2 k j)
  | _ => .int (ob.2.1 k j)
def aD (ty : FieldType) : String := match ty with
  | .int => "[I"
  | .boolean => "[Z"
  | _ => "[J"
abbrev Cls : Type := String × List (String × String) × List (String × FieldType × Int32)
abbrev mem1 (k : Nat) {d : Jvm.Cond} (h : tables_1[k]? = some d) : d ∈ tables_1 := List.mem_of_getElem? h
abbrev sOk (C : String) (nd : String × String) : Prop := (Jvm.Cond.lays C C nd.1 nd.2 ∈ tables_1 ∨ Jvm.Cond.laysFinal C C nd.1 nd.2 ∈ tables_1) ∧ (nd.2 = "I" ∨ nd.2 = "Z")
abbrev aOk (C : String) (t : String × FieldType × Int32) : Prop := (Jvm.Cond.lays C C t.1 (aD t.2.1) ∈ tables_1 ∨ Jvm.Cond.laysFinal C C t.1 (aD t.2.1) ∈ tables_1) ∧ (t.2.1 = .int ∨ t.2.1 = .boolean ∨ t.2.1 = .long) ∧ ¬ t.2.2 < 0
def K : Cls := ("SaturProver", [("cap", "I"), ("n", "I"), ("dep", "I"), ("sn", "I"), ("hasSaved", "Z"), ("res", "I"), ("wit", "I"), ("fValid", "Z")], [("toks", .int, 32), ("saved", .int, 32), ("stk", .long, 128), ("tabF", .long, 4), ("tabS", .long, 4), ("work", .long, 4)])
theorem kS : All (sOk K.1) K.2.1 := ⟨⟨Or.inl (mem1 24 rfl), Or.inl rfl⟩, ⟨Or.inl (mem1 26 rfl), Or.inl rfl⟩, ⟨Or.inl (mem1 28 rfl), Or.inl rfl⟩, ⟨Or.inl (mem1 30 rfl), Or.inl rfl⟩, ⟨Or.inl (mem1 32 rfl), Or.inr rfl⟩, ⟨Or.inl (mem1 40 rfl), Or.inl rfl⟩, ⟨Or.inl (mem1 42 rfl), Or.inl rfl⟩, ⟨Or.inl (mem1 34 rfl), Or.inr rfl⟩, trivial⟩
theorem kA : All (aOk K.1) K.2.2 := ⟨⟨Or.inr (mem1 11 rfl), Or.inl rfl, by decide⟩, ⟨Or.inr (mem1 13 rfl), Or.inl rfl, by decide⟩, ⟨Or.inr (mem1 16 rfl), Or.inr (Or.inr rfl), by decide⟩, ⟨Or.inr (mem1 18 rfl), Or.inr (Or.inr rfl), by decide⟩, ⟨Or.inr (mem1 20 rfl), Or.inr (Or.inr rfl), by decide⟩, ⟨Or.inr (mem1 22 rfl), Or.inr (Or.inr rfl), by decide⟩, trivial⟩
abbrev kN : Nat := 14
theorem kI : Jvm.Cond.instantiable K.1 kN ∈ tables_1 := mem1 1 rfl
theorem kZ : Jvm.Cond.initialized K.1 ∈ tables_1 := mem1 2 rfl
theorem kNm : (K.2.1.map (·.1) ++ K.2.2.map (·.1)).Nodup := by decide +kernel
theorem nm_ss {k k' : Nat} {nd nd' : String × String} (h : K.2.1[k]? = some nd) (h' : K.2.1[k']? = some nd') (ne : k ≠ k') : nd.1 ≠ nd'.1 := fun e => by
  have l := (List.getElem?_eq_some_iff.mp h).1
  have l' := (List.getElem?_eq_some_iff.mp h').1
  refine ne ((List.getElem?_inj (l := K.2.1.map (·.1) ++ K.2.2.map (·.1)) (i := k) (j := k') (by simp; omega) kNm).mp ?_)
  rw [List.getElem?_append_left (by simpa using l), List.getElem?_append_left (by simpa using l'), List.getElem?_map, List.getElem?_map, h, h']
  simp [e]
theorem nm_aa {k k' : Nat} {t t' : String × FieldType × Int32} (h : K.2.2[k]? = some t) (h' : K.2.2[k']? = some t') (ne : k ≠ k') : t.1 ≠ t'.1 := fun e => by
  have l := (List.getElem?_eq_some_iff.mp h).1
  have l' := (List.getElem?_eq_some_iff.mp h').1
  have q := (List.getElem?_inj (l := K.2.1.map (·.1) ++ K.2.2.map (·.1)) (i := K.2.1.length + k) (j := K.2.1.length + k') (by simp; omega) kNm).mp (by
    rw [List.getElem?_append_right (by simp), List.getElem?_append_right (by simp)]
    simp [h, h', e])
  omega
theorem nm_sa {k k' : Nat} {nd : String × String} {t : String × FieldType × Int32} (h : K.2.1[k]? = some nd) (h' : K.2.2[k']? = some t) : nd.1 ≠ t.1 := fun e => by
  have l := (List.getElem?_eq_some_iff.mp h).1
  have l' := (List.getElem?_eq_some_iff.mp h').1
  have q := (List.getElem?_inj (l := K.2.1.map (·.1) ++ K.2.2.map (·.1)) (i := k) (j := K.2.1.length + k') (by simp; omega) kNm).mp (by
    rw [List.getElem?_append_left (by simpa using l), List.getElem?_append_right (by simp)]
    simp [h, h', e])
  omega
abbrev Ctx : Type := Launch × State × Nat × Array Value
def Ok (C : Ctx) : Prop := ∀ d ∈ tables_1, d.before C.2.2.2 C.2.1 = true
def ArrAt (Z : State) (h : Heap) (b : Nat) (ty : FieldType) (len : Int32) (v : Int32 → Value) : Prop := ∃ cl : Cell, Arr Z h b cl ty ∧ cl.slots.size = len.toNatClampNeg ∧ ∀ j : Int32, ¬ j < 0 → j < len → cl.slots[j.toNatClampNeg]? = some (v j)
def ObjAt (Z : State) (h : Heap) (a : Nat) (q : Nat) (ob : Rec) : Prop :=
  Exa Z h a K.1 ∧ (∀ k nd, K.2.1[k]? = some nd → Fld Z h a K.1 nd.1 nd.2 (.int (ob.1 k))) ∧
  (∀ k t, K.2.2[k]? = some t → k < q → Fld Z h a K.1 t.1 (aD t.2.1) (.ref (a + 1 + k)) ∧ ArrAt Z h (a + 1 + k) t.2.1 t.2.2 (el t.2.1 ob k)) ∧
  (∀ k t, K.2.2[k]? = some t → q ≤ k → Fld Z h a K.1 t.1 (aD t.2.1) .null)
abbrev AH : Type := Nat × List (Nat × Nat × Rec)
def Rep (Z : State) (n0 : Nat) (h : Heap) (G : AH) : Prop :=
  h.size = G.1 ∧ Old Z n0 h ∧ (∀ x ∈ G.2, n0 ≤ x.1 ∧ x.1 + x.2.1 < G.1 ∧ ObjAt Z h x.1 x.2.1 x.2.2) ∧ G.2.Pairwise (fun x y => x.1 + x.2.1 < y.1 ∨ y.1 + y.2.1 < x.1)
section Facts
variable {Z : State} {h h' : Heap} {a b : Nat} {q k n0 top : Nat} {ob ob' : Rec} {nd : String × String} {t : String × FieldType × Int32} {a0 : Array Value} {sl : Nat} {v : Value} {H : List (Nat × Nat × Rec)} {G : AH}
theorem fld_fr {C n d : String} (e : h'[a]? = h[a]?) (F : Fld Z h a C n d v) : Fld Z h' a C n d v := by
  obtain ⟨cell, cf, k, i, f, h1, r⟩ := F; exact ⟨cell, cf, k, i, f, e.trans h1, r⟩
theorem exa_fr {C : String} (e : h'[a]? = h[a]?) (F : Exa Z h a C) : Exa Z h' a C := by
  obtain ⟨cell, k, h1, r⟩ := F; exact ⟨cell, k, e.trans h1, r⟩
theorem arrAt_fr {ty : FieldType} {len : Int32} {w : Int32 → Value} (e : h'[a]? = h[a]?) (F : ArrAt Z h a ty len w) : ArrAt Z h' a ty len w := by
  obtain ⟨cl, A, r⟩ := F; exact ⟨cl, ⟨e.trans A.1, A.2⟩, r⟩
theorem ObjAt.frame (e : ∀ b, a ≤ b → b ≤ a + q → h'[b]? = h[b]?) (F : ObjAt Z h a q ob) : ObjAt Z h' a q ob := by
  have e0 := e a (Nat.le_refl _) (Nat.le_add_right _ _)
  refine ⟨exa_fr e0 F.1, fun k nd hk => fld_fr e0 (F.2.1 k nd hk), fun k t hk hq => ⟨fld_fr e0 (F.2.2.1 k t hk hq).1, arrAt_fr (e _ (by omega) (by omega)) (F.2.2.1 k t hk hq).2⟩, fun k t hk hq => fld_fr e0 (F.2.2.2 k t hk hq)⟩
theorem ObjAt.ext (E : Ext h h') (F : ObjAt Z h a q ob) : ObjAt Z h' a q ob := by
  refine ⟨F.1.ext E, fun k nd hk => (F.2.1 k nd hk).ext E, fun k t hk hq => ⟨(F.2.2.1 k t hk hq).1.ext E, ?_⟩, fun k t hk hq => (F.2.2.2 k t hk hq).ext E⟩
  obtain ⟨cl, A, r⟩ := (F.2.2.1 k t hk hq).2; exact ⟨cl, A.ext E, r⟩
theorem wr_ne (W : Wr h h' a sl v) (ne : b ≠ a) : h'[b]? = h[b]? := by
  obtain ⟨cell, -, -, -, rfl⟩ := W; exact Array.getElem?_setIfInBounds_ne (Ne.symm ne)
theorem laidS (hw : ∀ d ∈ tables_1, d.before a0 Z = true) (hk : K.2.1[k]? = some nd) : Laid Z a0 K.1 K.1 nd.1 nd.2 := ((All.mem kS (List.mem_of_getElem? hk)).1).imp (hw _) (hw _)
theorem laidA (hw : ∀ d ∈ tables_1, d.before a0 Z = true) (hk : K.2.2[k]? = some t) : Laid Z a0 K.1 K.1 t.1 (aD t.2.1) := ((All.mem kA (List.mem_of_getElem? hk)).1).imp (hw _) (hw _)
theorem pfS (hk : K.2.1[k]? = some nd) : ∃ ty, parseFieldDescriptor nd.2 = some ty := by
  rcases (All.mem kS (List.mem_of_getElem? hk)).2 with e | e <;> rw [e]
  · exact ⟨.int, by decide⟩
  · exact ⟨.boolean, by decide⟩
theorem pfA (hk : K.2.2[k]? = some t) : parseFieldDescriptor (aD t.2.1) = some (.array t.2.1) := by
  rcases (All.mem kA (List.mem_of_getElem? hk)).2.1 with e | e | e <;> rw [e] <;> decide
theorem ObjAt.putI {x : Int32} (hw : ∀ d ∈ tables_1, d.before a0 Z = true) (F : ObjAt Z h a q ob) (hk : K.2.1[k]? = some nd) (W : Wr h h' a (Jvm.RoadKit.slotOf Z K.1 nd.1 nd.2) (.int x)) : ObjAt Z h' a q (sI ob k x) := by
  obtain ⟨ty, hty⟩ := pfS hk
  refine ⟨F.1.wr W, fun k' nd' hk' => ?_, fun k' t hk' hq => ⟨(F.2.2.1 k' t hk' hq).1.other W (Or.inr (Jvm.RoadKit.slot_ne (laidA hw hk') (laidS hw hk) (Ne.symm (nm_sa hk hk')) (pfA hk') hty)), ?_⟩, fun k' t hk' hq => (F.2.2.2 k' t hk' hq).other W (Or.inr (Jvm.RoadKit.slot_ne (laidA hw hk') (laidS hw hk) (Ne.symm (nm_sa hk hk')) (pfA hk') hty))⟩
  · by_cases e : k' = k
    · subst e; cases hk.symm.trans hk'
      have := (F.2.1 k' nd hk).same W
      simpa [sI] using this
    · obtain ⟨ty', hty'⟩ := pfS hk'
      have := (F.2.1 k' nd' hk').other W (Or.inr (Jvm.RoadKit.slot_ne (laidS hw hk') (laidS hw hk) (nm_ss hk' hk e) hty' hty))
      simpa [sI, e] using this
  · have := arrAt_fr (wr_ne W (by omega)) (F.2.2.1 k' t hk' hq).2
    have e : el t.2.1 (sI ob k x) k' = el t.2.1 ob k' := by funext j; unfold el; split <;> rfl
    rw [e]; exact this
theorem ObjAt.putA (F : ObjAt Z h a q ob) (hk : K.2.2[k]? = some t) (hq : k < q) {x : Value} {j : Int32} (hj : ¬ j < 0 ∧ j < t.2.2) (W : Wr h h' (a + 1 + k) j.toNatClampNeg x)
    (e1 : el t.2.1 ob' k = fun i => if i = j then x else el t.2.1 ob k i) (e2 : ∀ k' t', k' ≠ k → el t' ob' k' = el t' ob k') (e3 : ob'.1 = ob.1) : ObjAt Z h' a q ob' := by
  have u : h'[a]? = h[a]? := wr_ne W (by omega)
  refine ⟨exa_fr u F.1, fun k' nd hk' => by rw [e3]; exact fld_fr u (F.2.1 k' nd hk'), fun k' t' hk' hq' => ⟨fld_fr u (F.2.2.1 k' t' hk' hq').1, ?_⟩, fun k' t' hk' hq' => fld_fr u (F.2.2.2 k' t' hk' hq')⟩
  by_cases e : k' = k
  · subst e; cases hk.symm.trans hk'
    obtain ⟨cl, A, S, V⟩ := (F.2.2.1 k' t hk hq).2
    have inb : ¬ (j < 0 ∨ cl.slots.size ≤ j.toNatClampNeg) := inb_of S hj
    refine ⟨_, A.same W, by rw [sz_set]; exact S, fun i h0 h1 => ?_⟩
    rw [e1]
    by_cases ei : i = j
    · simp only [ei, if_true]; exact get_hit inb rfl
    · simp only [ei, if_false]; rw [get_miss hj.1 h0 ei]; exact V i h0 h1
  · rw [e2 k' _ e]; exact arrAt_fr (wr_ne W (by omega)) (F.2.2.1 k' t' hk' hq').2
theorem el_sA {ty : FieldType} (ht : ty ≠ .long) (j x : Int32) : el ty (sA ob k j x) k = fun i => if i = j then .int x else el ty ob k i := by
  funext i; cases ty <;> first | exact absurd rfl ht | (simp only [el, sA, true_and]; split <;> rfl)
theorem el_sJ (j : Int32) (x : Int64) : el .long (sJ ob k j x) k = fun i => if i = j then .long x else el .long ob k i := by
  funext i; simp only [el, sJ, true_and]; split <;> rfl
theorem el_sA' (j x : Int32) (k' : Nat) (t' : FieldType) (ne : k' ≠ k) : el t' (sA ob k j x) k' = el t' ob k' := by
  funext i; cases t' <;> simp [el, sA, ne]
theorem el_sJ' (j : Int32) (x : Int64) (k' : Nat) (t' : FieldType) (ne : k' ≠ k) : el t' (sJ ob k j x) k' = el t' ob k' := by
  funext i; cases t' <;> simp [el, sJ, ne]
theorem Rep.upd (R : Rep Z n0 h (top, (a, q, ob) :: H)) (hs : h'.size = h.size) (hO : Old Z n0 h') (e : ∀ b, (b < a ∨ a + q < b) → h'[b]? = h[b]?) (F : ObjAt Z h' a q ob') : Rep Z n0 h' (top, (a, q, ob') :: H) := by
  obtain ⟨r1, r2, r3, r4⟩ := R
  refine ⟨hs.trans r1, hO, fun x hx => ?_, ?_⟩
  · rcases List.mem_cons.mp hx with rfl | hx
    · exact ⟨(r3 _ (List.mem_cons_self ..)).1, (r3 _ (List.mem_cons_self ..)).2.1, F⟩
    · obtain ⟨p1, p2, p3⟩ := r3 x (List.mem_cons_of_mem _ hx)
      refine ⟨p1, p2, p3.frame fun b h1 h2 => e b ?_⟩
      have := (List.pairwise_cons.mp r4).1 x hx
      simp only at this
      omega
  · have := List.pairwise_cons.mp r4
    exact List.pairwise_cons.mpr ⟨fun y hy => this.1 y hy, this.2⟩
theorem Rep.objs (R : Rep Z n0 h (top, (a, q, ob) :: H)) : n0 ≤ a ∧ a + q < top ∧ ObjAt Z h a q ob := R.2.2.1 _ (List.mem_cons_self ..)
theorem Rep.putI {x : Int32} (hw : ∀ d ∈ tables_1, d.before a0 Z = true) (R : Rep Z n0 h (top, (a, q, ob) :: H)) (hk : K.2.1[k]? = some nd) (W : Wr h h' a (Jvm.RoadKit.slotOf Z K.1 nd.1 nd.2) (.int x)) : Rep Z n0 h' (top, (a, q, sI ob k x) :: H) :=
  R.upd W.size (R.2.1.wr W R.objs.1) (fun b hb => wr_ne W (by omega)) (R.objs.2.2.putI hw hk W)
theorem Rep.putA {x j : Int32} (R : Rep Z n0 h (top, (a, q, ob) :: H)) (hk : K.2.2[k]? = some t) (hq : k < q) (ht : t.2.1 ≠ .long) (hj : ¬ j < 0 ∧ j < t.2.2) (W : Wr h h' (a + 1 + k) j.toNatClampNeg (.int x)) : Rep Z n0 h' (top, (a, q, sA ob k j x) :: H) :=
  R.upd W.size (R.2.1.wr W (by have := R.objs.1; omega)) (fun b hb => wr_ne W (by omega)) (R.objs.2.2.putA hk hq hj W (el_sA ht j x) (fun k' t' ne => el_sA' j x k' t' ne) rfl)
theorem Rep.putJ {j : Int32} {x : Int64} (R : Rep Z n0 h (top, (a, q, ob) :: H)) (hk : K.2.2[k]? = some t) (hq : k < q) (ht : t.2.1 = .long) (hj : ¬ j < 0 ∧ j < t.2.2) (W : Wr h h' (a + 1 + k) j.toNatClampNeg (.long x)) : Rep Z n0 h' (top, (a, q, sJ ob k j x) :: H) :=
  R.upd W.size (R.2.1.wr W (by have := R.objs.1; omega)) (fun b hb => wr_ne W (by omega)) (R.objs.2.2.putA hk hq hj W (by rw [ht]; exact el_sJ j x) (fun k' t' ne => el_sJ' j x k' t' ne) rfl)
theorem Rep.swap {x y : Nat × Nat × Rec} (R : Rep Z n0 h (top, x :: y :: H)) : Rep Z n0 h (top, y :: x :: H) := by
  obtain ⟨r1, r2, r3, r4⟩ := R
  refine ⟨r1, r2, fun z hz => r3 z ?_, ?_⟩
  · simp only [List.mem_cons] at hz ⊢
    rcases hz with e | e | e
    · exact Or.inr (Or.inl e)
    · exact Or.inl e
    · exact Or.inr (Or.inr e)
  · simp only [List.pairwise_cons, List.mem_cons] at r4 ⊢
    obtain ⟨p1, p2, p3⟩ := r4
    refine ⟨fun z hz => ?_, fun z hz => p1 z (Or.inr hz), p3⟩
    rcases hz with rfl | hz
    · exact (p1 _ (Or.inl rfl)).symm
    · exact p2 z hz
theorem ObjAt.addA (hw : ∀ d ∈ tables_1, d.before a0 Z = true) (F : ObjAt Z h a k ob) (hk : K.2.2[k]? = some t) (A : ArrAt Z h (a + 1 + k) t.2.1 t.2.2 (el t.2.1 ob k)) (W : Wr h h' a (Jvm.RoadKit.slotOf Z K.1 t.1 (aD t.2.1)) (.ref (a + 1 + k))) : ObjAt Z h' a (k + 1) ob := by
  refine ⟨F.1.wr W, fun k' nd hk' => ?_, fun k' t' hk' hq => ?_, fun k' t' hk' hq => ?_⟩
  · obtain ⟨ty', hty'⟩ := pfS hk'
    exact (F.2.1 k' nd hk').other W (Or.inr (Jvm.RoadKit.slot_ne (laidS hw hk') (laidA hw hk) (nm_sa hk' hk) hty' (pfA hk)))
  · by_cases e : k' = k
    · subst e
      have et : t = t' := Option.some.inj (hk.symm.trans hk')
      subst et
      exact ⟨(F.2.2.2 k' t hk (Nat.le_refl _)).same W, arrAt_fr (wr_ne W (by omega)) A⟩
    · obtain ⟨f1, f2⟩ := F.2.2.1 k' t' hk' (by omega)
      exact ⟨f1.other W (Or.inr (Jvm.RoadKit.slot_ne (laidA hw hk') (laidA hw hk) (nm_aa hk' hk e) (pfA hk') (pfA hk))), arrAt_fr (wr_ne W (by omega)) f2⟩
  · exact (F.2.2.2 k' t' hk' (by omega)).other W (Or.inr (Jvm.RoadKit.slot_ne (laidA hw hk') (laidA hw hk) (nm_aa hk' hk (by omega)) (pfA hk') (pfA hk)))
theorem Rep.addA {h1 h2 : Heap} (hw : ∀ d ∈ tables_1, d.before a0 Z = true) (R : Rep Z n0 h (top, (a, k, ob) :: H)) (E : Ext h h1) (s1 : h1.size = top + 1) (htop : top = a + 1 + k) (hk : K.2.2[k]? = some t) (A : ArrAt Z h1 top t.2.1 t.2.2 (el t.2.1 ob k)) (W : Wr h1 h2 a (Jvm.RoadKit.slotOf Z K.1 t.1 (aD t.2.1)) (.ref top)) : Rep Z n0 h2 (top + 1, (a, k + 1, ob) :: H) := by
  obtain ⟨q1, q2, q3⟩ := R.objs
  have hp := List.pairwise_cons.mp R.2.2.2
  have hO : ObjAt Z h2 a (k + 1) ob := by
    subst htop
    exact (q3.ext E).addA hw hk A W
  refine ⟨W.size.trans s1, (R.2.1.ext E).wr W q1, List.forall_mem_cons.mpr ⟨⟨q1, ?_, hO⟩, fun x hx => ?_⟩, List.pairwise_cons.mpr ⟨fun y hy => ?_, hp.2⟩⟩
  · show a + (k + 1) < top + 1; omega
  · obtain ⟨p1, p2, p3⟩ := R.2.2.1 x (List.mem_cons_of_mem _ hx)
    have u1 : a + k < x.1 ∨ x.1 + x.2.1 < a := hp.1 x hx
    have u2 : x.1 + x.2.1 < top := p2
    exact ⟨p1, Nat.lt_succ_of_lt u2, (p3.ext E).frame fun b h1 h2 => wr_ne W (by omega)⟩
  · have u1 : a + k < y.1 ∨ y.1 + y.2.1 < a := hp.1 y hy
    have u2 : y.1 + y.2.1 < top := (R.2.2.1 y (List.mem_cons_of_mem _ hy)).2.1
    show a + (k + 1) < y.1 ∨ y.1 + y.2.1 < a
    omega
theorem arr_new {cA : ClassId} {ty : FieldType} {len : Int32} (A : Arr Z h b (newA cA ty len) ty) (hts : ty = .int ∨ ty = .boolean ∨ ty = .long) (hz : (∀ i, ob.2.1 k i = 0) ∧ (∀ i, ob.2.2 k i = 0)) : ArrAt Z h b ty len (el ty ob k) := by
  refine ⟨_, A, sz_new _ _ _, fun i h0 h1 => ?_⟩
  have hi : ¬ (i < 0 ∨ len.toNatClampNeg ≤ i.toNatClampNeg) := by
    have e0 : (0 : Int32).toInt = 0 := rfl
    simp only [Int32.lt_iff_toInt_lt, Int32.toNatClampNeg] at *
    omega
  rw [get_new hi]
  rcases hts with rfl | rfl | rfl
  · show some (Value.int 0) = some (Value.int (ob.2.1 k i)); rw [hz.1]
  · show some (Value.int 0) = some (Value.int (ob.2.1 k i)); rw [hz.1]
  · show some (Value.long 0) = some (Value.long (ob.2.2 k i)); rw [hz.2]
theorem Rep.start (s : State) : Rep s s.heap.size s.heap (s.heap.size, []) := ⟨rfl, Old.start s, fun x hx => (by cases hx), List.Pairwise.nil⟩
end Facts
/- bodies, decode facts, patterns of local variables -/
abbrev Bdy : Type := MethodName × ByteArray × Nat × Option FieldType × Room
def DAt (M : Bdy) (pc : Nat) (i : Instr) (n q : Nat) : Prop := decode M.2.1 pc = .ok (i, n) ∧ q = pc + n
abbrev Pat : Type := List (Option Slot)
abbrev vi (x : Int32) : Option Slot := some (.val (.int x))
abbrev vl (x : Int64) : Option Slot := some (.val (.long x))
abbrev vr (a : Nat) : Option Slot := some (.val (.ref a))
abbrev v2 : Option Slot := some .second
abbrev vn : Option Slot := none
def pget : Pat → Nat → Option Slot
  | [], _ => none
  | x :: _, 0 => x
  | _ :: l, n + 1 => pget l n
theorem pget_eq : ∀ (P : Pat) (i : Nat), pget P i = (P[i]?).join
  | [], _ => by simp [pget]
  | x :: l, 0 => by simp [pget]
  | x :: l, n + 1 => by simp [pget, pget_eq l n]
def pput : Pat → Nat → Option Slot → Pat
  | [], _, _ => []
  | _ :: l, 0, y => y :: l
  | x :: l, n + 1, y => x :: pput l n y
theorem pget_pput : ∀ (P : Pat) (i j : Nat) (y : Option Slot) (s : Slot), pget (pput P i y) j = some s → (j = i ∧ y = some s) ∨ (j ≠ i ∧ pget P j = some s)
  | [], _, _, _, _, h => by simp [pput, pget] at h
  | x :: l, 0, 0, y, s, h => Or.inl ⟨rfl, h⟩
  | x :: l, 0, j + 1, y, s, h => Or.inr ⟨by omega, h⟩
  | x :: l, i + 1, 0, y, s, h => Or.inr ⟨by omega, h⟩
  | x :: l, i + 1, j + 1, y, s, h => by
    rcases pget_pput l i j y s h with ⟨e, r⟩ | ⟨e, r⟩
    · exact Or.inl ⟨by omega, r⟩
    · exact Or.inr ⟨by omega, r⟩
/-- a two-word value whose first word is at i is forgotten -/
def pk1 (P : Pat) (i : Nat) : Pat := match pget P i with
  | some (.val (.long _)) => pput P i none
  | some (.val (.double _)) => pput P i none
  | _ => P
def pk2 (P : Pat) (i : Nat) : Pat := match pget P i with
  | some .second => pput P i none
  | _ => P
def pkp (P : Pat) : Nat → Pat
  | 0 => P
  | i + 1 => pk1 P i
def ps1 (P : Pat) (i : Nat) (v : Value) : Pat := pput (pk2 (pkp P i) (i + 1)) i (some (.val v))
def ps2 (P : Pat) (i : Nat) (v : Value) : Pat := pput (pput (pk2 (pkp P i) (i + 2)) i (some (.val v))) (i + 1) (some .second)
def WFl (L : Array Slot) : Prop := (∀ i : Nat, L[i]? = some .second → ∃ (j : Nat) (v : Value), i = j + 1 ∧ L[j]? = some (.val v) ∧ v.category = 2) ∧ (∀ (i : Nat) (v : Value), L[i]? = some (.val v) → v.category = 2 → L[i + 1]? = some .second)
def Fits (P : Pat) (L : Array Slot) : Prop := (∀ i s, pget P i = some s → L[i]? = some s) ∧ WFl L
theorem pk1_sub {P : Pat} {i j : Nat} {s : Slot} (h : pget (pk1 P i) j = some s) : pget P j = some s ∧ (j = i → ∀ w : Value, s = .val w → w.category = 1) := by
  unfold pk1 at h
  split at h
  · rcases pget_pput _ _ _ _ _ h with ⟨-, e⟩ | ⟨e, r⟩
    · cases e
    · exact ⟨r, fun q => absurd q e⟩
  · rcases pget_pput _ _ _ _ _ h with ⟨-, e⟩ | ⟨e, r⟩
    · cases e
    · exact ⟨r, fun q => absurd q e⟩
  · rename_i h1 h2
    refine ⟨h, fun q w e => ?_⟩
    subst q e
    cases w <;> first | rfl | exact absurd h (h1 _) | exact absurd h (h2 _)
theorem pk2_sub {P : Pat} {i j : Nat} {s : Slot} (h : pget (pk2 P i) j = some s) : pget P j = some s ∧ (j = i → s ≠ .second) := by
  unfold pk2 at h
  split at h
  · rcases pget_pput _ _ _ _ _ h with ⟨-, e⟩ | ⟨e, r⟩
    · cases e
    · exact ⟨r, fun q => absurd q e⟩
  · rename_i h1
    refine ⟨h, fun q e => ?_⟩
    subst q e; exact h1 h
theorem pkp_sub {P : Pat} {i j : Nat} {s : Slot} (h : pget (pkp P i) j = some s) : pget P j = some s ∧ (j + 1 = i → ∀ w : Value, s = .val w → w.category = 1) := by
  cases i with
  | zero => exact ⟨h, fun q => by omega⟩
  | succ i => obtain ⟨h1, h2⟩ := pk1_sub (show pget (pk1 P i) j = some s from h); exact ⟨h1, fun q => h2 (by omega)⟩
theorem setAt_eq {L : Array Slot} {i : Nat} {x : Slot} (hi : i < L.size) : Jvm.setAt L i x = some (L.setIfInBounds i x) := by simp [Jvm.setAt, hi]
theorem sl_second {L : Array Slot} {i : Nat} {v : Value} (ho : L[i]? = some .second) : storeLocals L i v = (Jvm.setAt L (i - 1) .unset).bind fun l => storeSelf l i v := by
  unfold storeLocals; rw [ho]; rfl
theorem sl_unset {L : Array Slot} {i : Nat} {v : Value} (ho : L[i]? = some .unset) : storeLocals L i v = storeSelf L i v := by
  unfold storeLocals; rw [ho]; rfl
theorem sl_val {L : Array Slot} {i : Nat} {v o : Value} (ho : L[i]? = some (.val o)) : storeLocals L i v = if o.category = 2 then (Jvm.setAt L (i + 1) .unset).bind fun l => storeSelf l i v else storeSelf L i v := by
  unfold storeLocals; rw [ho]; rfl
theorem ss_one {L : Array Slot} {i : Nat} {v : Value} (hi : i < L.size) (hv : ¬ v.category = 2) : storeSelf L i v = some (L.setIfInBounds i (.val v)) := by
  unfold storeSelf; rw [setAt_eq hi]; simp [hv]
theorem ss_two {L : Array Slot} {i : Nat} {v : Value} {o : Slot} (hi : i < L.size) (hv : v.category = 2) (ho : L[i + 1]? = some o) : storeSelf L i v = (match o with
    | .val old => if old.category = 2 then (Jvm.setAt (L.setIfInBounds i (.val v)) (i + 2) .unset).bind fun l => Jvm.setAt l (i + 1) .second else Jvm.setAt (L.setIfInBounds i (.val v)) (i + 1) .second
    | _ => Jvm.setAt (L.setIfInBounds i (.val v)) (i + 1) .second) := by
  have e : (L.setIfInBounds i (.val v))[i + 1]? = some o := by rw [Array.getElem?_setIfInBounds_ne (by omega)]; exact ho
  unfold storeSelf; rw [setAt_eq hi]
  show (if v.category = 2 then _ else _) = _
  rw [if_pos hv, e]
  cases o <;> rfl
theorem cat12 (v : Value) : v.category = 1 ∨ v.category = 2 := by cases v <;> first | exact Or.inl rfl | exact Or.inr rfl
/-- a one-word store: what stands elsewhere stays, but for the halves of a two-word value that it breaks -/
theorem store_one {L : Array Slot} {i : Nat} {v : Value} (hW : WFl L) (hi : i < L.size) (hv : v.category = 1) :
    ∃ L', storeLocals L i v = some L' ∧ L'.size = L.size ∧ WFl L' ∧ L'[i]? = some (.val v) ∧ ∀ j, j ≠ i → L'[j]? = L[j]? ∨ (j + 1 = i ∧ L[i]? = some .second) ∨ (j = i + 1 ∧ L[j]? = some .second) := by
  have hv2 : ¬ v.category = 2 := by omega
  cases ho : L[i]? with
  | none => rw [Array.getElem?_eq_none_iff] at ho; omega
  | some o =>
    cases o with
    | unset =>
      refine ⟨L.setIfInBounds i (.val v), ?_, by simp, ?_, by simp [hi], fun j hj => Or.inl (Array.getElem?_setIfInBounds_ne (Ne.symm hj))⟩
      · rw [sl_unset ho, ss_one hi hv2]
      · refine ⟨fun j hj => ?_, fun j w hj hw => ?_⟩
        · by_cases e : j = i
          · subst e; simp [hi] at hj
          · rw [Array.getElem?_setIfInBounds_ne (Ne.symm e)] at hj
            obtain ⟨j', w, e1, e2, e3⟩ := hW.1 j hj
            refine ⟨j', w, e1, ?_, e3⟩
            rw [Array.getElem?_setIfInBounds_ne]; exact e2
            intro q; subst q; rw [ho] at e2; cases e2
        · by_cases e : j = i
          · subst e; simp [hi] at hj; subst hj; omega
          · rw [Array.getElem?_setIfInBounds_ne (Ne.symm e)] at hj
            have := hW.2 j w hj hw
            rw [Array.getElem?_setIfInBounds_ne]; exact this
            intro q; subst q; rw [ho] at this; cases this
    | second =>
      obtain ⟨j0, w0, rfl, f2, f3⟩ := hW.1 i ho
      have hj0 : j0 < L.size := by omega
      refine ⟨(L.setIfInBounds j0 .unset).setIfInBounds (j0 + 1) (.val v), ?_, by simp, ?_, by simp [hi], fun j hj => ?_⟩
      · rw [sl_second ho, show j0 + 1 - 1 = j0 from rfl, setAt_eq hj0]; exact ss_one (by simpa using hi) hv2
      · refine ⟨fun j hj => ?_, fun j w hj hw => ?_⟩
        · by_cases e : j = j0 + 1
          · subst e; simp [hi] at hj
          · rw [Array.getElem?_setIfInBounds_ne (Ne.symm e)] at hj
            by_cases e' : j = j0
            · subst e'; simp [hj0] at hj
            · rw [Array.getElem?_setIfInBounds_ne (Ne.symm e')] at hj
              obtain ⟨j', w, e1, e2, e3⟩ := hW.1 j hj
              refine ⟨j', w, e1, ?_, e3⟩
              rw [Array.getElem?_setIfInBounds_ne, Array.getElem?_setIfInBounds_ne]
              · exact e2
              · intro q; subst q; omega
              · intro q; subst q; rw [ho] at e2; cases e2
        · by_cases e : j = j0 + 1
          · subst e; simp [hi] at hj; subst hj; omega
          · rw [Array.getElem?_setIfInBounds_ne (Ne.symm e)] at hj
            by_cases e' : j = j0
            · subst e'; simp [hj0] at hj
            · rw [Array.getElem?_setIfInBounds_ne (Ne.symm e')] at hj
              have := hW.2 j w hj hw
              rw [Array.getElem?_setIfInBounds_ne, Array.getElem?_setIfInBounds_ne]
              · exact this
              · intro q; subst q; rw [f2] at this; cases this
              · omega
      · by_cases e' : j = j0
        · exact Or.inr (Or.inl ⟨by omega, rfl⟩)
        · left; rw [Array.getElem?_setIfInBounds_ne (Ne.symm hj), Array.getElem?_setIfInBounds_ne (Ne.symm e')]
    | val old =>
      by_cases hc : old.category = 2
      · have f2 := hW.2 i old ho hc
        have hi1 : i + 1 < L.size := (Array.getElem?_eq_some_iff.mp f2).1
        refine ⟨(L.setIfInBounds (i + 1) .unset).setIfInBounds i (.val v), ?_, by simp, ?_, by simp [hi], fun j hj => ?_⟩
        · rw [sl_val ho, if_pos hc, setAt_eq hi1]; exact ss_one (by simpa using hi) hv2
        · refine ⟨fun j hj => ?_, fun j w hj hw => ?_⟩
          · by_cases e : j = i
            · subst e; simp [hi] at hj
            · rw [Array.getElem?_setIfInBounds_ne (Ne.symm e)] at hj
              by_cases e' : j = i + 1
              · subst e'; simp [hi1] at hj
              · rw [Array.getElem?_setIfInBounds_ne (Ne.symm e')] at hj
                obtain ⟨j', w, e1, e2, e3⟩ := hW.1 j hj
                refine ⟨j', w, e1, ?_, e3⟩
                rw [Array.getElem?_setIfInBounds_ne, Array.getElem?_setIfInBounds_ne]
                · exact e2
                · intro q; subst q; rw [f2] at e2; cases e2
                · omega
          · by_cases e : j = i
            · subst e; simp [hi] at hj; subst hj; omega
            · rw [Array.getElem?_setIfInBounds_ne (Ne.symm e)] at hj
              by_cases e' : j = i + 1
              · subst e'; simp [hi1] at hj
              · rw [Array.getElem?_setIfInBounds_ne (Ne.symm e')] at hj
                have := hW.2 j w hj hw
                rw [Array.getElem?_setIfInBounds_ne, Array.getElem?_setIfInBounds_ne]
                · exact this
                · omega
                · intro q; subst q; rw [ho] at this; cases this
        · by_cases e' : j = i + 1
          · subst e'; exact Or.inr (Or.inr ⟨rfl, f2⟩)
          · left; rw [Array.getElem?_setIfInBounds_ne (Ne.symm hj), Array.getElem?_setIfInBounds_ne (Ne.symm e')]
      · refine ⟨L.setIfInBounds i (.val v), ?_, by simp, ?_, by simp [hi], fun j hj => Or.inl (Array.getElem?_setIfInBounds_ne (Ne.symm hj))⟩
        · rw [sl_val ho, if_neg hc, ss_one hi hv2]
        · refine ⟨fun j hj => ?_, fun j w hj hw => ?_⟩
          · by_cases e : j = i
            · subst e; simp [hi] at hj
            · rw [Array.getElem?_setIfInBounds_ne (Ne.symm e)] at hj
              obtain ⟨j', w, e1, e2, e3⟩ := hW.1 j hj
              refine ⟨j', w, e1, ?_, e3⟩
              rw [Array.getElem?_setIfInBounds_ne]; exact e2
              intro q; subst q; rw [ho] at e2; cases e2; omega
          · by_cases e : j = i
            · subst e; simp [hi] at hj; subst hj; omega
            · rw [Array.getElem?_setIfInBounds_ne (Ne.symm e)] at hj
              have := hW.2 j w hj hw
              rw [Array.getElem?_setIfInBounds_ne]; exact this
              intro q; subst q; rw [ho] at this; cases this
theorem Fits.store1 {P : Pat} {L : Array Slot} {i : Nat} {v : Value} (h : Fits P L) (hi : i < L.size) (hv : v.category = 1) :
    ∃ L', storeLocals L i v = some L' ∧ L'.size = L.size ∧ Fits (ps1 P i v) L' := by
  obtain ⟨L', e1, e2, e3, e4, e5⟩ := store_one h.2 hi hv
  refine ⟨L', e1, e2, fun j s hj => ?_, e3⟩
  rcases pget_pput _ _ _ _ _ hj with ⟨rfl, q⟩ | ⟨ne, q⟩
  · rw [e4]; exact q
  · obtain ⟨q1, q2⟩ := pk2_sub q
    obtain ⟨q3, q4⟩ := pkp_sub q1
    have hL := h.1 j s q3
    rcases e5 j ne with r | ⟨r1, r2⟩ | ⟨r1, r2⟩
    · rw [r]; exact hL
    · obtain ⟨j', w, z1, z2, z3⟩ := h.2.1 i r2
      have : j' = j := by omega
      subst this
      rw [hL] at z2; cases z2
      have := q4 r1 w rfl; omega
    · rw [hL] at r2; cases r2
      exact absurd rfl (q2 r1)
theorem st_ph1 {L : Array Slot} {i : Nat} {v : Value} (hW : WFl L) (hi : i + 1 < L.size) :
    ∃ A : Array Slot, storeLocals L i v = storeSelf A i v ∧ A.size = L.size ∧ (∀ j, j ≠ i → j ≠ i + 1 → A[j]? = L[j]? ∨ (j + 1 = i ∧ L[i]? = some .second ∧ A[j]? = some .unset)) ∧ (A[i + 1]? = L[i + 1]? ∨ (A[i + 1]? = some .unset ∧ L[i + 1]? = some .second)) ∧ (L[i]? = some .second → ∀ j, j + 1 = i → A[j]? = some .unset) := by
  have hi0 : i < L.size := by omega
  cases ho : L[i]? with
  | none => rw [Array.getElem?_eq_none_iff] at ho; omega
  | some o =>
    cases o with
    | unset => exact ⟨L, sl_unset ho, rfl, fun j _ _ => Or.inl rfl, Or.inl rfl, fun q => by cases q⟩
    | second =>
      obtain ⟨j0, w0, rfl, f2, f3⟩ := hW.1 i ho
      have hj0 : j0 < L.size := by omega
      refine ⟨L.setIfInBounds j0 .unset, by rw [sl_second ho, show j0 + 1 - 1 = j0 from rfl, setAt_eq hj0]; rfl, by simp, fun j h1 h2 => ?_, Or.inl (Array.getElem?_setIfInBounds_ne (by omega)), fun _ j hj => ?_⟩
      · by_cases e : j = j0
        · subst e; exact Or.inr ⟨rfl, rfl, by simp [hj0]⟩
        · exact Or.inl (Array.getElem?_setIfInBounds_ne (Ne.symm e))
      · have : j = j0 := by omega
        subst this; simp [hj0]
    | val old =>
      by_cases hc : old.category = 2
      · refine ⟨L.setIfInBounds (i + 1) .unset, by rw [sl_val ho, if_pos hc, setAt_eq hi]; rfl, by simp, fun j h1 h2 => Or.inl (Array.getElem?_setIfInBounds_ne (Ne.symm h2)), Or.inr ⟨by simp [hi], hW.2 i old ho hc⟩, fun q => by cases q⟩
      · exact ⟨L, by rw [sl_val ho, if_neg hc], rfl, fun j _ _ => Or.inl rfl, Or.inl rfl, fun q => by cases q⟩
theorem st_ph2 {A : Array Slot} {i : Nat} {v : Value} (hi : i + 1 < A.size) (hv : v.category = 2) (hn : ∀ w : Value, A[i + 1]? = some (.val w) → w.category = 2 → i + 2 < A.size) :
    ∃ L', storeSelf A i v = some L' ∧ L'.size = A.size ∧ L'[i]? = some (.val v) ∧ L'[i + 1]? = some .second ∧ (∀ j, j ≠ i → j ≠ i + 1 → L'[j]? = A[j]? ∨ (j = i + 2 ∧ L'[j]? = some .unset ∧ ∃ w : Value, A[i + 1]? = some (.val w) ∧ w.category = 2)) ∧ ((∃ w : Value, A[i + 1]? = some (.val w) ∧ w.category = 2) → L'[i + 2]? = some .unset) := by
  have hi0 : i < A.size := by omega
  have eB : (A.setIfInBounds i (.val v))[i + 1]? = A[i + 1]? := Array.getElem?_setIfInBounds_ne (by omega)
  have plain : (∀ w : Value, A[i + 1]? = some (.val w) → w.category ≠ 2) → storeSelf A i v = some ((A.setIfInBounds i (.val v)).setIfInBounds (i + 1) .second) := fun hq => by
    cases ho : A[i + 1]? with
    | none => rw [Array.getElem?_eq_none_iff] at ho; omega
    | some o => cases o with
      | unset => rw [ss_two hi0 hv ho]; exact setAt_eq (by simpa using hi)
      | second => rw [ss_two hi0 hv ho]; exact setAt_eq (by simpa using hi)
      | val w => have := hq w ho; rw [ss_two hi0 hv ho]; simp only [if_neg this]; exact setAt_eq (by simpa using hi)
  by_cases hw : ∃ w : Value, A[i + 1]? = some (.val w) ∧ w.category = 2
  · obtain ⟨w, h1, h2⟩ := hw
    have h3 := hn w h1 h2
    refine ⟨((A.setIfInBounds i (.val v)).setIfInBounds (i + 2) .unset).setIfInBounds (i + 1) .second, by rw [ss_two hi0 hv h1]; simp only [if_pos h2]; rw [setAt_eq (by simpa using h3)]; exact setAt_eq (by simpa using hi), by simp, ?_, by simp [hi], fun j a b => ?_, fun _ => ?_⟩
    · rw [Array.getElem?_setIfInBounds_ne (by omega), Array.getElem?_setIfInBounds_ne (by omega)]; simp [hi0]
    · rw [Array.getElem?_setIfInBounds_ne (by omega)]
      by_cases e : j = i + 2
      · subst e; exact Or.inr ⟨rfl, by simp [h3], w, h1, h2⟩
      · left; rw [Array.getElem?_setIfInBounds_ne (by omega), Array.getElem?_setIfInBounds_ne (by omega)]
    · rw [Array.getElem?_setIfInBounds_ne (by omega)]; simp [h3]
  · refine ⟨_, plain fun w h1 h2 => hw ⟨w, h1, h2⟩, by simp, ?_, by simp [hi], fun j a b => Or.inl ?_, fun q => absurd q hw⟩
    · rw [Array.getElem?_setIfInBounds_ne (by omega)]; simp [hi0]
    · rw [Array.getElem?_setIfInBounds_ne (by omega), Array.getElem?_setIfInBounds_ne (by omega)]
theorem store_two {L : Array Slot} {i : Nat} {v : Value} (hW : WFl L) (hi : i + 1 < L.size) (hv : v.category = 2) :
    ∃ L', storeLocals L i v = some L' ∧ L'.size = L.size ∧ WFl L' ∧ L'[i]? = some (.val v) ∧ L'[i + 1]? = some .second ∧ ∀ j, j ≠ i → j ≠ i + 1 → L'[j]? = L[j]? ∨ (j + 1 = i ∧ L[i]? = some .second) ∨ (j = i + 2 ∧ L[j]? = some .second) := by
  obtain ⟨A, a1, a2, a3, a4, a5⟩ := st_ph1 (v := v) hW hi
  have a6 : ∀ w : Value, A[i + 1]? = some (.val w) → w.category = 2 → L[i + 2]? = some .second := fun w h1 h2 => by
    rcases a4 with e | ⟨e, -⟩
    · rw [e] at h1; exact hW.2 _ _ h1 h2
    · rw [e] at h1; cases h1
  obtain ⟨L', b1, b2, b3, b4, b5, b6⟩ := st_ph2 (A := A) (i := i) (v := v) (by omega) hv (fun w h1 h2 => by have := (Array.getElem?_eq_some_iff.mp (a6 w h1 h2)).1; omega)
  have c : ∀ j, j ≠ i → j ≠ i + 1 → L'[j]? = L[j]? ∨ (j + 1 = i ∧ L[i]? = some .second ∧ L'[j]? = some .unset) ∨ (j = i + 2 ∧ L[j]? = some .second ∧ L'[j]? = some .unset) := fun j h1 h2 => by
    rcases b5 j h1 h2 with e | ⟨e1, e2, w, e3, e4⟩
    · rcases a3 j h1 h2 with r | ⟨r1, r2, r3⟩
      · exact Or.inl (e.trans r)
      · exact Or.inr (Or.inl ⟨r1, r2, e.trans r3⟩)
    · subst e1; exact Or.inr (Or.inr ⟨rfl, a6 w e3 e4, e2⟩)
  have cs : L[i]? = some .second → ∀ j, j + 1 = i → L'[j]? = some .unset := fun q j hj => by
    rcases b5 j (by omega) (by omega) with e | ⟨e1, -⟩
    · exact e.trans (a5 q j hj)
    · omega
  have c2 : L[i + 2]? = some .second → L'[i + 2]? = some .unset := fun q => by
    obtain ⟨j', w, z1, z2, z3⟩ := hW.1 _ q
    have : j' = i + 1 := by omega
    subst this
    rcases a4 with e | ⟨-, e⟩
    · exact b6 ⟨w, e.trans z2, z3⟩
    · rw [e] at z2; cases z2
  refine ⟨L', a1.trans b1, b2.trans a2, ⟨fun j hj => ?_, fun j w hj hw => ?_⟩, b3, b4, fun j h1 h2 => ?_⟩
  · by_cases e0 : j = i
    · subst e0; rw [b3] at hj; cases hj
    by_cases e1 : j = i + 1
    · exact ⟨i, v, e1, b3, hv⟩
    rcases c j e0 e1 with r | ⟨-, -, r⟩ | ⟨-, -, r⟩
    · rw [r] at hj
      obtain ⟨j', w, z1, z2, z3⟩ := hW.1 j hj
      refine ⟨j', w, z1, ?_, z3⟩
      have n0 : j' ≠ i := by omega
      by_cases n1 : j' = i + 1
      · have : j = i + 2 := by omega
        subst this
        rw [c2 hj] at r; rw [hj] at r; cases r
      rcases c j' n0 n1 with u | ⟨u, -, -⟩ | ⟨-, u, -⟩
      · exact u.trans z2
      · omega
      · rw [z2] at u; cases u
    · rw [r] at hj; cases hj
    · rw [r] at hj; cases hj
  · by_cases e0 : j = i
    · subst e0; exact b4
    by_cases e1 : j = i + 1
    · subst e1; rw [b4] at hj; cases hj
    rcases c j e0 e1 with r | ⟨-, -, r⟩ | ⟨-, -, r⟩
    · have hj' := hj
      rw [r] at hj
      have z := hW.2 j w hj hw
      by_cases n0 : j + 1 = i
      · subst n0; rw [cs z j rfl] at hj'; cases hj'
      by_cases n1 : j + 1 = i + 1
      · omega
      rcases c (j + 1) n0 n1 with u | ⟨u1, u2, -⟩ | ⟨u, -, -⟩
      · exact u.trans z
      · obtain ⟨j', w', y1, y2, y3⟩ := hW.1 i u2
        have : j' = j + 1 := by omega
        subst this; rw [z] at y2; cases y2
      · omega
    · rw [r] at hj; cases hj
    · rw [r] at hj; cases hj
  · rcases c j h1 h2 with r | ⟨r1, r2, -⟩ | ⟨r1, r2, -⟩
    · exact Or.inl r
    · exact Or.inr (Or.inl ⟨r1, r2⟩)
    · exact Or.inr (Or.inr ⟨r1, r2⟩)
theorem Fits.store2 {P : Pat} {L : Array Slot} {i : Nat} {v : Value} (h : Fits P L) (hi : i + 1 < L.size) (hv : v.category = 2) :
    ∃ L', storeLocals L i v = some L' ∧ L'.size = L.size ∧ Fits (ps2 P i v) L' := by
  obtain ⟨L', e1, e2, e3, e4, e4', e5⟩ := store_two h.2 hi hv
  refine ⟨L', e1, e2, fun j s hj => ?_, e3⟩
  rcases pget_pput _ _ _ _ _ hj with ⟨rfl, q⟩ | ⟨ne, q⟩
  · rw [e4']; exact q
  rcases pget_pput _ _ _ _ _ q with ⟨rfl, q'⟩ | ⟨ne', q'⟩
  · rw [e4]; exact q'
  obtain ⟨q1, q2⟩ := pk2_sub q'
  obtain ⟨q3, q4⟩ := pkp_sub q1
  have hL := h.1 j s q3
  rcases e5 j ne' ne with r | ⟨r1, r2⟩ | ⟨r1, r2⟩
  · rw [r]; exact hL
  · obtain ⟨j', w, z1, z2, z3⟩ := h.2.1 i r2
    have : j' = j := by omega
    subst this
    rw [hL] at z2; cases z2
    have := q4 r1 w rfl; omega
  · rw [hL] at r2; cases r2
    exact absurd rfl (q2 r1)
/- what a body does from a place on -/
def Runs (C : Ctx) (M : Bdy) (k n pc : Nat) (P : Pat) (S : List Value) (G : AH) (Q : Option Value → AH → Prop) : Prop :=
  Ok C → ∀ (p : Program) (e : Env) (s : State) (m : MethodId) (args : Array Value) (below : List Frame) (meth : Method) (c : Code) (T : State) (locs : List Loc) (L : Array Slot),
    p.tables.exec = Jvm.exec → c.code = M.2.1 → c.maxLocals = M.2.2.1 → meth.sig.returnType = M.2.2.2.1 → meth.name = M.1.name → s.vm.findClass M.1.cls = some m.cls → C.2.1.Warmed39 s.vm →
    Fits P L → L.size = M.2.2.1 → Stand p C.1 e M.2.2.2.2 s m args below meth c T locs k n → Rep C.2.1 C.2.2.1 T.heap G → Fr C.2.2.1 locs →
    ∃ (T' : State) (locs' : List Loc) (k' n' : Nat) (r : Option Value) (G' : AH), Stand p C.1 e M.2.2.2.2 s m args below meth c T' locs' k' n' ∧ k' ≤ M.2.2.2.2.cells ∧ n' ≤ M.2.2.2.2.slots ∧ Rep C.2.1 C.2.2.1 T'.heap G' ∧ Fr C.2.2.1 locs' ∧ Q r G' ∧
      (M.2.2.2.1 = none → r = none) ∧
      ∀ fs : List Frame, (∀ (f : JFrame) (acts : List Action), f.method = m → f.locked = none → f.entered = [] → (doReturn e (T'.setTop f) acts r).1 = T'.setFrames fs) → Steps p.tables e below (T.setTop (mkF m pc L S)) (T'.setFrames fs)
section Rules
variable {C : Ctx} {M : Bdy} {k n pc q : Nat} {P P' : Pat} {S S' : List Value} {G : AH} {Q : Option Value → AH → Prop}
/-- a step that leaves the heap alone -/
theorem Runs.pure {i : Instr} {len : Nat} (d : DAt M pc i len q) {pc' : Nat}
    (st : ∀ (p : Program) (e : Env) (s : State) (m : MethodId) (args : Array Value) (below : List Frame) (meth : Method) (c : Code) (T : State) (locs : List Loc) (L : Array Slot), Ok C → p.tables.exec = Jvm.exec → s.vm.findClass M.1.cls = some m.cls → C.2.1.Warmed39 s.vm → decode c.code pc = .ok (i, len) → Fits P L → L.size = M.2.2.1 → Rep C.2.1 C.2.2.1 T.heap G →
      Stand p C.1 e M.2.2.2.2 s m args below meth c T locs k n → ∃ L', Fits P' L' ∧ L'.size = M.2.2.1 ∧ ∀ t, Steps p.tables e below (T.setTop (mkF m pc' L' S')) t → Steps p.tables e below (T.setTop (mkF m pc L S)) t)
    (h : Runs C M k n pc' P' S' G Q) : Runs C M k n pc P S G Q := by
  intro hw p e s m args below meth c T locs L hx hby hml hret hnm hown hZ hP hsz X hR hF
  obtain ⟨L', f1, f2, f3⟩ := st p e s m args below meth c T locs L hw hx hown hZ (hb hby d.1) hP hsz hR X
  obtain ⟨T', locs', k', n', r, G', g1, g2, g3, g4, g5, g6, g7, g8⟩ := h hw p e s m args below meth c T locs L' hx hby hml hret hnm hown hZ f1 f2 X hR hF
  exact ⟨T', locs', k', n', r, G', g1, g2, g3, g4, g5, g6, g7, fun fs hr => f3 _ (g8 fs hr)⟩
/-- a step that keeps the locals and what the heap says -/
theorem Runs.stk {i : Instr} {len : Nat} (d : DAt M pc i len q)
    (st : ∀ (p : Program) (e : Env) (s : State) (m : MethodId) (args : Array Value) (below : List Frame) (meth : Method) (c : Code) (T : State) (locs : List Loc) (L : Array Slot), p.tables.exec = Jvm.exec → decode c.code pc = .ok (i, len) → Fits P L →
      Stand p C.1 e M.2.2.2.2 s m args below meth c T locs k n → ∀ t, Steps p.tables e below (T.setTop (mkF m (pc + len) L S')) t → Steps p.tables e below (T.setTop (mkF m pc L S)) t)
    (h : Runs C M k n q P S' G Q) : Runs C M k n pc P S G Q := by
  have hq := d.2
  subst hq
  exact Runs.pure d (fun p e s m args below meth c T locs L _ hx _ _ hd hP hsz _ X => ⟨L, hP, hsz, st p e s m args below meth c T locs L hx hd hP X⟩) h
theorem Runs.iloadN {j : Fin 4} {v : Int32} (d : DAt M pc (.iload_n j) 1 q) (hl : pget P j.val = vi v) (h : Runs C M k n q P (.int v :: S) G Q) : Runs C M k n pc P S G Q :=
  Runs.stk d (fun p e s m args below meth c T locs L hx hd hP X t r => XS.iloadN (g := mkF m pc L S) X.here hx rfl hd (hP.1 _ _ hl) r) h
theorem Runs.iload {j : Nat} {v : Int32} (d : DAt M pc (.iload j) 2 q) (hl : pget P j = vi v) (h : Runs C M k n q P (.int v :: S) G Q) : Runs C M k n pc P S G Q :=
  Runs.stk d (fun p e s m args below meth c T locs L hx hd hP X t r => XS.iload (g := mkF m pc L S) X.here hx rfl hd (hP.1 _ _ hl) r) h
theorem Runs.lloadN {j : Fin 4} {v : Int64} (d : DAt M pc (.lload_n j) 1 q) (hl : pget P j.val = vl v) (h : Runs C M k n q P (.long v :: S) G Q) : Runs C M k n pc P S G Q :=
  Runs.stk d (fun p e s m args below meth c T locs L hx hd hP X t r => XS.lloadN (g := mkF m pc L S) X.here hx rfl hd (hP.1 _ _ hl) r) h
theorem Runs.lload {j : Nat} {v : Int64} (d : DAt M pc (.lload j) 2 q) (hl : pget P j = vl v) (h : Runs C M k n q P (.long v :: S) G Q) : Runs C M k n pc P S G Q :=
  Runs.stk d (fun p e s m args below meth c T locs L hx hd hP X t r => XS.lload (g := mkF m pc L S) X.here hx rfl hd (hP.1 _ _ hl) r) h
theorem Runs.aloadN {j : Fin 4} {v : Nat} (d : DAt M pc (.aload_n j) 1 q) (hl : pget P j.val = vr v) (h : Runs C M k n q P (.ref v :: S) G Q) : Runs C M k n pc P S G Q :=
  Runs.stk d (fun p e s m args below meth c T locs L hx hd hP X t r => XS.aloadN (g := mkF m pc L S) X.here hx rfl hd (hP.1 _ _ hl) rfl r) h
theorem Runs.aload {j : Nat} {v : Nat} (d : DAt M pc (.aload j) 2 q) (hl : pget P j = vr v) (h : Runs C M k n q P (.ref v :: S) G Q) : Runs C M k n pc P S G Q :=
  Runs.stk d (fun p e s m args below meth c T locs L hx hd hP X t r => XS.aload (g := mkF m pc L S) X.here hx rfl hd (hP.1 _ _ hl) rfl r) h
theorem Runs.iconst {i : Int} {v : Int32} (d : DAt M pc (.iconst i) 1 q) (hv : Int32.ofInt i = v) (h : Runs C M k n q P (.int v :: S) G Q) : Runs C M k n pc P S G Q :=
  Runs.stk d (fun p e s m args below meth c T locs L hx hd hP X t r => XS.iconst (g := mkF m pc L S) X.here hx rfl hd (by rw [hv]; exact r)) h
theorem Runs.bipush {i : Int} {v : Int32} (d : DAt M pc (.bipush i) 2 q) (hv : (Int8.ofInt i).toInt32 = v) (h : Runs C M k n q P (.int v :: S) G Q) : Runs C M k n pc P S G Q :=
  Runs.stk d (fun p e s m args below meth c T locs L hx hd hP X t r => XS.bipush (g := mkF m pc L S) X.here hx rfl hd (by rw [hv]; exact r)) h
theorem Runs.sipush {i : Int} {v : Int32} (d : DAt M pc (.sipush i) 3 q) (hv : (Int16.ofInt i).toInt32 = v) (h : Runs C M k n q P (.int v :: S) G Q) : Runs C M k n pc P S G Q :=
  Runs.stk d (fun p e s m args below meth c T locs L hx hd hP X t r => XS.sipush (g := mkF m pc L S) X.here hx rfl hd (by rw [hv]; exact r)) h
theorem Runs.lconst {i : Fin 2} {v : Int64} (d : DAt M pc (.lconst i) 1 q) (hv : Int64.ofNat i = v) (h : Runs C M k n q P (.long v :: S) G Q) : Runs C M k n pc P S G Q :=
  Runs.stk d (fun p e s m args below meth c T locs L hx hd hP X t r => Jvm.Free.XT.lconstV (g := mkF m pc L S) X.here hx rfl v hd hv r) h
theorem Runs.ldc {i : Nat} {v : Int32} (d : DAt M pc (.ldc i) 2 q) (w : Jvm.Cond.constant M.1.cls i v ∈ tables_1) (h : Runs C M k n q P (.int v :: S) G Q) : Runs C M k n pc P S G Q := by
  have hq := d.2
  subst hq
  exact Runs.pure d (fun p e s m args below meth c T locs L hw hx hown hZ hd hP hsz _ X => ⟨L, hP, hsz, fun t r => X.ldcInt hx hown (mvT hZ (hw _ w)) (g := mkF m pc L S) rfl hd t r⟩) h
theorem Runs.ldc2 {i : Nat} {v : Int64} (d : DAt M pc (.ldc2_w i) 3 q) (w : Jvm.Cond.constantLong M.1.cls i v ∈ tables_1) (h : Runs C M k n q P (.long v :: S) G Q) : Runs C M k n pc P S G Q := by
  have hq := d.2
  subst hq
  exact Runs.pure d (fun p e s m args below meth c T locs L hw hx hown hZ hd hP hsz _ X => ⟨L, hP, hsz, fun t r => X.ldc2Long hx hown (mvT hZ (hw _ w)) (g := mkF m pc L S) rfl hd t r⟩) h
theorem Runs.iadd {x y : Int32} (d : DAt M pc .iadd 1 q) (h : Runs C M k n q P (.int (x + y) :: S) G Q) : Runs C M k n pc P (.int y :: .int x :: S) G Q :=
  Runs.stk d (fun p e s m args below meth c T locs L hx hd hP X t r => XS.iadd (g := mkF m pc L (.int y :: .int x :: S)) X.here hx rfl hd rfl r) h
theorem Runs.isub {x y : Int32} (d : DAt M pc .isub 1 q) (h : Runs C M k n q P (.int (x - y) :: S) G Q) : Runs C M k n pc P (.int y :: .int x :: S) G Q :=
  Runs.stk d (fun p e s m args below meth c T locs L hx hd hP X t r => XS.isub (g := mkF m pc L (.int y :: .int x :: S)) X.here hx rfl hd rfl r) h
theorem Runs.imul {x y : Int32} (d : DAt M pc .imul 1 q) (h : Runs C M k n q P (.int (x * y) :: S) G Q) : Runs C M k n pc P (.int y :: .int x :: S) G Q :=
  Runs.stk d (fun p e s m args below meth c T locs L hx hd hP X t r => XS.imul (g := mkF m pc L (.int y :: .int x :: S)) X.here hx rfl hd rfl r) h
theorem Runs.iand {x y : Int32} (d : DAt M pc .iand 1 q) (h : Runs C M k n q P (.int (x &&& y) :: S) G Q) : Runs C M k n pc P (.int y :: .int x :: S) G Q :=
  Runs.stk d (fun p e s m args below meth c T locs L hx hd hP X t r => XS.iand (g := mkF m pc L (.int y :: .int x :: S)) X.here hx rfl hd rfl r) h
theorem Runs.ior {x y : Int32} (d : DAt M pc .ior 1 q) (h : Runs C M k n q P (.int (x ||| y) :: S) G Q) : Runs C M k n pc P (.int y :: .int x :: S) G Q :=
  Runs.stk d (fun p e s m args below meth c T locs L hx hd hP X t r => XS.ior (g := mkF m pc L (.int y :: .int x :: S)) X.here hx rfl hd rfl r) h
theorem Runs.ixor {x y : Int32} (d : DAt M pc .ixor 1 q) (h : Runs C M k n q P (.int (x ^^^ y) :: S) G Q) : Runs C M k n pc P (.int y :: .int x :: S) G Q :=
  Runs.stk d (fun p e s m args below meth c T locs L hx hd hP X t r => XS.ixor (g := mkF m pc L (.int y :: .int x :: S)) X.here hx rfl hd rfl r) h
theorem Runs.ladd {x y : Int64} (d : DAt M pc .ladd 1 q) (h : Runs C M k n q P (.long (x + y) :: S) G Q) : Runs C M k n pc P (.long y :: .long x :: S) G Q :=
  Runs.stk d (fun p e s m args below meth c T locs L hx hd hP X t r => XS.ladd (g := mkF m pc L (.long y :: .long x :: S)) X.here hx rfl hd rfl r) h
theorem Runs.lsub {x y : Int64} (d : DAt M pc .lsub 1 q) (h : Runs C M k n q P (.long (x - y) :: S) G Q) : Runs C M k n pc P (.long y :: .long x :: S) G Q :=
  Runs.stk d (fun p e s m args below meth c T locs L hx hd hP X t r => XS.lsub (g := mkF m pc L (.long y :: .long x :: S)) X.here hx rfl hd rfl r) h
theorem Runs.lmul {x y : Int64} (d : DAt M pc .lmul 1 q) (h : Runs C M k n q P (.long (x * y) :: S) G Q) : Runs C M k n pc P (.long y :: .long x :: S) G Q :=
  Runs.stk d (fun p e s m args below meth c T locs L hx hd hP X t r => XS.lmul (g := mkF m pc L (.long y :: .long x :: S)) X.here hx rfl hd rfl r) h
theorem Runs.land {x y : Int64} (d : DAt M pc .land 1 q) (h : Runs C M k n q P (.long (x &&& y) :: S) G Q) : Runs C M k n pc P (.long y :: .long x :: S) G Q :=
  Runs.stk d (fun p e s m args below meth c T locs L hx hd hP X t r => XS.land (g := mkF m pc L (.long y :: .long x :: S)) X.here hx rfl hd rfl r) h
theorem Runs.lor {x y : Int64} (d : DAt M pc .lor 1 q) (h : Runs C M k n q P (.long (x ||| y) :: S) G Q) : Runs C M k n pc P (.long y :: .long x :: S) G Q :=
  Runs.stk d (fun p e s m args below meth c T locs L hx hd hP X t r => XS.lor (g := mkF m pc L (.long y :: .long x :: S)) X.here hx rfl hd rfl r) h
theorem Runs.lxor {x y : Int64} (d : DAt M pc .lxor 1 q) (h : Runs C M k n q P (.long (x ^^^ y) :: S) G Q) : Runs C M k n pc P (.long y :: .long x :: S) G Q :=
  Runs.stk d (fun p e s m args below meth c T locs L hx hd hP X t r => XS.lxor (g := mkF m pc L (.long y :: .long x :: S)) X.here hx rfl hd rfl r) h
theorem Runs.ishl {x : Int32} {y : Int32} (d : DAt M pc .ishl 1 q) (h : Runs C M k n q P (.int (x <<< (y &&& 31)) :: S) G Q) : Runs C M k n pc P (.int y :: .int x :: S) G Q :=
  Runs.stk d (fun p e s m args below meth c T locs L hx hd hP X t r => XS.ishl (g := mkF m pc L (.int y :: .int x :: S)) X.here hx rfl hd rfl r) h
theorem Runs.ishr {x : Int32} {y : Int32} (d : DAt M pc .ishr 1 q) (h : Runs C M k n q P (.int (x >>> (y &&& 31)) :: S) G Q) : Runs C M k n pc P (.int y :: .int x :: S) G Q :=
  Runs.stk d (fun p e s m args below meth c T locs L hx hd hP X t r => XS.ishr (g := mkF m pc L (.int y :: .int x :: S)) X.here hx rfl hd rfl r) h
theorem Runs.iushr {x : Int32} {y : Int32} (d : DAt M pc .iushr 1 q) (h : Runs C M k n q P (.int ((x.toUInt32 >>> (y &&& 31).toUInt32).toInt32) :: S) G Q) : Runs C M k n pc P (.int y :: .int x :: S) G Q :=
  Runs.stk d (fun p e s m args below meth c T locs L hx hd hP X t r => XS.iushr (g := mkF m pc L (.int y :: .int x :: S)) X.here hx rfl hd rfl r) h
theorem Runs.lshl {x : Int64} {y : Int32} (d : DAt M pc .lshl 1 q) (h : Runs C M k n q P (.long (x <<< (y &&& 0x3f).toInt64) :: S) G Q) : Runs C M k n pc P (.int y :: .long x :: S) G Q :=
  Runs.stk d (fun p e s m args below meth c T locs L hx hd hP X t r => XS.lshl (g := mkF m pc L (.int y :: .long x :: S)) X.here hx rfl hd rfl r) h
theorem Runs.lshr {x : Int64} {y : Int32} (d : DAt M pc .lshr 1 q) (h : Runs C M k n q P (.long (x >>> (y &&& 0x3f).toInt64) :: S) G Q) : Runs C M k n pc P (.int y :: .long x :: S) G Q :=
  Runs.stk d (fun p e s m args below meth c T locs L hx hd hP X t r => XS.lshr (g := mkF m pc L (.int y :: .long x :: S)) X.here hx rfl hd rfl r) h
theorem Runs.lushr {x : Int64} {y : Int32} (d : DAt M pc .lushr 1 q) (h : Runs C M k n q P (.long ((x.toUInt64 >>> (y &&& 0x3f).toInt64.toUInt64).toInt64) :: S) G Q) : Runs C M k n pc P (.int y :: .long x :: S) G Q :=
  Runs.stk d (fun p e s m args below meth c T locs L hx hd hP X t r => XS.lushr (g := mkF m pc L (.int y :: .long x :: S)) X.here hx rfl hd rfl r) h
theorem Runs.ineg {x : Int32} (d : DAt M pc .ineg 1 q) (h : Runs C M k n q P (.int (-x) :: S) G Q) : Runs C M k n pc P (.int x :: S) G Q :=
  Runs.stk d (fun p e s m args below meth c T locs L hx hd hP X t r => XS.ineg (g := mkF m pc L (.int x :: S)) X.here hx rfl hd rfl r) h
theorem Runs.lneg {x : Int64} (d : DAt M pc .lneg 1 q) (h : Runs C M k n q P (.long (-x) :: S) G Q) : Runs C M k n pc P (.long x :: S) G Q :=
  Runs.stk d (fun p e s m args below meth c T locs L hx hd hP X t r => XS.lneg (g := mkF m pc L (.long x :: S)) X.here hx rfl hd rfl r) h
theorem Runs.i2l {x : Int32} (d : DAt M pc .i2l 1 q) (h : Runs C M k n q P (.long x.toInt64 :: S) G Q) : Runs C M k n pc P (.int x :: S) G Q :=
  Runs.stk d (fun p e s m args below meth c T locs L hx hd hP X t r => XS.i2l (g := mkF m pc L (.int x :: S)) X.here hx rfl hd rfl r) h
theorem Runs.l2i {x : Int64} (d : DAt M pc .l2i 1 q) (h : Runs C M k n q P (.int x.toInt32 :: S) G Q) : Runs C M k n pc P (.long x :: S) G Q :=
  Runs.stk d (fun p e s m args below meth c T locs L hx hd hP X t r => XS.l2i (g := mkF m pc L (.long x :: S)) X.here hx rfl hd rfl r) h
theorem Runs.lcmp {x y : Int64} (d : DAt M pc .lcmp 1 q) (h : Runs C M k n q P (.int (lcmpW x y) :: S) G Q) : Runs C M k n pc P (.long y :: .long x :: S) G Q :=
  Runs.stk d (fun p e s m args below meth c T locs L hx hd hP X t r => XS.lcmp (g := mkF m pc L (.long y :: .long x :: S)) X.here hx rfl hd rfl r) h
theorem Runs.idiv {x y : Int32} (d : DAt M pc .idiv 1 q) (hy : y ≠ 0) (h : Runs C M k n q P (.int (x / y) :: S) G Q) : Runs C M k n pc P (.int y :: .int x :: S) G Q :=
  Runs.stk d (fun p e s m args below meth c T locs L hx hd hP X t r => XS.idiv (g := mkF m pc L (.int y :: .int x :: S)) X.here hx rfl hd rfl hy r) h
theorem Runs.irem {x y : Int32} (d : DAt M pc .irem 1 q) (hy : y ≠ 0) (h : Runs C M k n q P (.int (x % y) :: S) G Q) : Runs C M k n pc P (.int y :: .int x :: S) G Q :=
  Runs.stk d (fun p e s m args below meth c T locs L hx hd hP X t r => iremM (g := mkF m pc L (.int y :: .int x :: S)) X hx rfl hd rfl hy r) h
theorem Runs.dup {x : Value} (d : DAt M pc .dup 1 q) (hc : x.category = 1) (h : Runs C M k n q P (x :: x :: S) G Q) : Runs C M k n pc P (x :: S) G Q :=
  Runs.stk d (fun p e s m args below meth c T locs L hx hd hP X t r => XS.dup (g := mkF m pc L (x :: S)) X.here hx rfl hd rfl hc r) h
theorem Runs.dup2 {x y : Value} (d : DAt M pc .dup2 1 q) (hc : x.category = 1) (hc' : y.category = 1) (h : Runs C M k n q P (x :: y :: x :: y :: S) G Q) : Runs C M k n pc P (x :: y :: S) G Q :=
  Runs.stk d (fun p e s m args below meth c T locs L hx hd hP X t r => Jvm.Free.XT.dup2 (g := mkF m pc L (x :: y :: S)) X.here hx rfl hd rfl hc hc' r) h
theorem Runs.pop {x : Value} (d : DAt M pc .pop 1 q) (hc : x.category = 1) (h : Runs C M k n q P S G Q) : Runs C M k n pc P (x :: S) G Q :=
  Runs.stk d (fun p e s m args below meth c T locs L hx hd hP X t r => XS.pop (g := mkF m pc L (x :: S)) X.here hx rfl hd rfl hc r) h
theorem Runs.goto {o : Int} {pc' : Nat} (d : DAt M pc (.goto o) 3 q) (ho : 0 ≤ (pc : Int) + o ∧ ((pc : Int) + o).toNat = pc') (h : Runs C M k n pc' P S G Q) : Runs C M k n pc P S G Q :=
  Runs.pure d (fun p e s m args below meth c T locs L hw hx hown hZ hd hP hsz _ X => ⟨L, hP, hsz, fun t r => XS.goto (g := mkF m pc L S) X.here hx rfl (pc0 := pc) rfl hd ho.1 ho.2 r⟩) h
theorem Runs.ifY {cd : ClassFile.Cond} {x : Int32} {o : Int} {pc' : Nat} (d : DAt M pc (.ifCond cd o) 3 q) (hc : if_icmp.holds cd x 0 = true) (ho : 0 ≤ (pc : Int) + o ∧ ((pc : Int) + o).toNat = pc') (h : Runs C M k n pc' P S G Q) : Runs C M k n pc P (.int x :: S) G Q :=
  Runs.pure d (fun p e s m args below meth c T locs L hw hx hown hZ hd hP hsz _ X => ⟨L, hP, hsz, fun t r => XS.ifYes (g := mkF m pc L (.int x :: S)) X.here hx rfl (pc0 := pc) rfl hd rfl ((if0 _ _).trans hc) ho.1 ho.2 r⟩) h
theorem Runs.ifN {cd : ClassFile.Cond} {x : Int32} {o : Int} (d : DAt M pc (.ifCond cd o) 3 q) (hc : if_icmp.holds cd x 0 = false) (h : Runs C M k n q P S G Q) : Runs C M k n pc P (.int x :: S) G Q :=
  Runs.stk d (fun p e s m args below meth c T locs L hx hd hP X t r => XS.ifNo (g := mkF m pc L (.int x :: S)) X.here hx rfl hd rfl ((if0 _ _).trans hc) r) h
theorem Runs.icY {cd : ClassFile.Cond} {x y : Int32} {o : Int} {pc' : Nat} (d : DAt M pc (.if_icmp cd o) 3 q) (hc : if_icmp.holds cd x y = true) (ho : 0 ≤ (pc : Int) + o ∧ ((pc : Int) + o).toNat = pc') (h : Runs C M k n pc' P S G Q) : Runs C M k n pc P (.int y :: .int x :: S) G Q :=
  Runs.pure d (fun p e s m args below meth c T locs L hw hx hown hZ hd hP hsz _ X => ⟨L, hP, hsz, fun t r => XS.icmpYes (g := mkF m pc L (.int y :: .int x :: S)) X.here hx rfl (pc0 := pc) rfl hd rfl hc ho.1 ho.2 r⟩) h
theorem Runs.icN {cd : ClassFile.Cond} {x y : Int32} {o : Int} (d : DAt M pc (.if_icmp cd o) 3 q) (hc : if_icmp.holds cd x y = false) (h : Runs C M k n q P S G Q) : Runs C M k n pc P (.int y :: .int x :: S) G Q :=
  Runs.stk d (fun p e s m args below meth c T locs L hx hd hP X t r => XS.icmpNo (g := mkF m pc L (.int y :: .int x :: S)) X.here hx rfl hd rfl hc r) h
theorem Runs.tswI {dflt low high : Int} {offs : Array Int} {len : Nat} {o : Int} {pc' : Nat} {i : Int32} (d : DAt M pc (.tableswitch dflt low high offs) len q) (hin : ¬ (i.toInt < low ∨ i.toInt > high)) (hoff : offs[(i.toInt - low).toNat]? = some o) (ho : 0 ≤ (pc : Int) + o ∧ ((pc : Int) + o).toNat = pc') (h : Runs C M k n pc' P S G Q) : Runs C M k n pc P (.int i :: S) G Q :=
  Runs.pure d (fun p e s m args below meth c T locs L hw hx hown hZ hd hP hsz _ X => ⟨L, hP, hsz, fun t r => XS.tswIn (g := mkF m pc L (.int i :: S)) X.here hx rfl (pc0 := pc) rfl hd rfl hin hoff ho.1 ho.2 r⟩) h
theorem Runs.tswO {dflt low high : Int} {offs : Array Int} {len : Nat} {pc' : Nat} {i : Int32} (d : DAt M pc (.tableswitch dflt low high offs) len q) (hout : i.toInt < low ∨ i.toInt > high) (ho : 0 ≤ (pc : Int) + dflt ∧ ((pc : Int) + dflt).toNat = pc') (h : Runs C M k n pc' P S G Q) : Runs C M k n pc P (.int i :: S) G Q :=
  Runs.pure d (fun p e s m args below meth c T locs L hw hx hown hZ hd hP hsz _ X => ⟨L, hP, hsz, fun t r => XS.tswOut (g := mkF m pc L (.int i :: S)) X.here hx rfl (pc0 := pc) rfl hd rfl hout ho.1 ho.2 r⟩) h
theorem Runs.istoreN {j : Fin 4} {x : Int32} (d : DAt M pc (.istore_n j) 1 q) (hi : j.val < M.2.2.1) (hP' : ps1 P j.val (.int x) = P') (h : Runs C M k n q P' S G Q) : Runs C M k n pc P (.int x :: S) G Q := by
  have hq := d.2
  subst hq hP'
  refine Runs.pure d (fun p e s m args below meth c T locs L hw hx hown hZ hd hP hsz _ X => ?_) h
  obtain ⟨L', e1, e2, e3⟩ := hP.store1 (i := j.val) (v := .int x) (by omega) rfl
  exact ⟨L', e3, e2.trans hsz, fun t r => XS.istoreN (g := mkF m pc L (.int x :: S)) X.here hx rfl hd rfl e1 r⟩
theorem Runs.istore {j : Nat} {x : Int32} (d : DAt M pc (.istore j) 2 q) (hi : j < M.2.2.1) (hP' : ps1 P j (.int x) = P') (h : Runs C M k n q P' S G Q) : Runs C M k n pc P (.int x :: S) G Q := by
  have hq := d.2
  subst hq hP'
  refine Runs.pure d (fun p e s m args below meth c T locs L hw hx hown hZ hd hP hsz _ X => ?_) h
  obtain ⟨L', e1, e2, e3⟩ := hP.store1 (i := j) (v := .int x) (by omega) rfl
  exact ⟨L', e3, e2.trans hsz, fun t r => XS.istore (g := mkF m pc L (.int x :: S)) X.here hx rfl hd rfl e1 r⟩
theorem Runs.astoreN {j : Fin 4} {x : Nat} (d : DAt M pc (.astore_n j) 1 q) (hi : j.val < M.2.2.1) (hP' : ps1 P j.val (.ref x) = P') (h : Runs C M k n q P' S G Q) : Runs C M k n pc P (.ref x :: S) G Q := by
  have hq := d.2
  subst hq hP'
  refine Runs.pure d (fun p e s m args below meth c T locs L hw hx hown hZ hd hP hsz _ X => ?_) h
  obtain ⟨L', e1, e2, e3⟩ := hP.store1 (i := j.val) (v := .ref x) (by omega) rfl
  exact ⟨L', e3, e2.trans hsz, fun t r => XS.astoreN (g := mkF m pc L (.ref x :: S)) X.here hx rfl hd rfl rfl e1 r⟩
theorem Runs.astore {j : Nat} {x : Nat} (d : DAt M pc (.astore j) 2 q) (hi : j < M.2.2.1) (hP' : ps1 P j (.ref x) = P') (h : Runs C M k n q P' S G Q) : Runs C M k n pc P (.ref x :: S) G Q := by
  have hq := d.2
  subst hq hP'
  refine Runs.pure d (fun p e s m args below meth c T locs L hw hx hown hZ hd hP hsz _ X => ?_) h
  obtain ⟨L', e1, e2, e3⟩ := hP.store1 (i := j) (v := .ref x) (by omega) rfl
  exact ⟨L', e3, e2.trans hsz, fun t r => XS.astore (g := mkF m pc L (.ref x :: S)) X.here hx rfl hd rfl rfl e1 r⟩
theorem Runs.lstoreN {j : Fin 4} {x : Int64} (d : DAt M pc (.lstore_n j) 1 q) (hi : j.val + 1 < M.2.2.1) (hP' : ps2 P j.val (.long x) = P') (h : Runs C M k n q P' S G Q) : Runs C M k n pc P (.long x :: S) G Q := by
  have hq := d.2
  subst hq hP'
  refine Runs.pure d (fun p e s m args below meth c T locs L hw hx hown hZ hd hP hsz _ X => ?_) h
  obtain ⟨L', e1, e2, e3⟩ := hP.store2 (i := j.val) (v := .long x) (by omega) rfl
  exact ⟨L', e3, e2.trans hsz, fun t r => XS.lstoreN (g := mkF m pc L (.long x :: S)) X.here hx rfl hd rfl e1 r⟩
theorem Runs.lstore {j : Nat} {x : Int64} (d : DAt M pc (.lstore j) 2 q) (hi : j + 1 < M.2.2.1) (hP' : ps2 P j (.long x) = P') (h : Runs C M k n q P' S G Q) : Runs C M k n pc P (.long x :: S) G Q := by
  have hq := d.2
  subst hq hP'
  refine Runs.pure d (fun p e s m args below meth c T locs L hw hx hown hZ hd hP hsz _ X => ?_) h
  obtain ⟨L', e1, e2, e3⟩ := hP.store2 (i := j) (v := .long x) (by omega) rfl
  exact ⟨L', e3, e2.trans hsz, fun t r => XS.lstore (g := mkF m pc L (.long x :: S)) X.here hx rfl hd rfl e1 r⟩
theorem Runs.iinc {j : Nat} {cst : Int} {x v : Int32} (d : DAt M pc (.iinc j cst) 3 q) (hv : Int32.ofInt cst = v) (hl : pget P j = vi x) (hi : j < M.2.2.1) (hP' : ps1 P j (.int (x + v)) = P') (h : Runs C M k n q P' S G Q) : Runs C M k n pc P S G Q := by
  have hq := d.2
  subst hq hP' hv
  refine Runs.pure d (fun p e s m args below meth c T locs L hw hx hown hZ hd hP hsz _ X => ?_) h
  obtain ⟨L', e1, e2, e3⟩ := hP.store1 (i := j) (v := .int (x + Int32.ofInt cst)) (by omega) rfl
  exact ⟨L', e3, e2.trans hsz, fun t r => XS.iinc (g := mkF m pc L S) X.here hx rfl hd (hP.1 _ _ hl) e1 r⟩
/-- less is known of the locals -/
def psub : Pat → Pat → Prop
  | [], _ => True
  | none :: l, _ :: l' => psub l l'
  | some s :: l, y :: l' => y = some s ∧ psub l l'
  | none :: l, [] => psub l []
  | some _ :: _, [] => False
theorem psub_get : ∀ (P P' : Pat), psub P P' → ∀ i s, pget P i = some s → pget P' i = some s
  | [], _, _, i, s, h => by simp [pget] at h
  | none :: l, _ :: l', H, 0, s, h => by simp [pget] at h
  | none :: l, _ :: l', H, i + 1, s, h => psub_get l l' H i s h
  | some x :: l, y :: l', H, 0, s, h => by rw [show y = some x from H.1]; exact h
  | some x :: l, y :: l', H, i + 1, s, h => psub_get l l' H.2 i s h
  | none :: l, [], H, 0, s, h => by simp [pget] at h
  | none :: l, [], H, i + 1, s, h => by have := psub_get l [] H i s h; simp [pget] at this
  | some _ :: _, [], H, _, _, _ => H.elim
theorem Runs.weak (hP : psub P' P) (h : Runs C M k n pc P' S G Q) : Runs C M k n pc P S G Q := by
  intro hw p e s m args below meth c T locs L hx hby hml hret hnm hown hZ hf
  exact h hw p e s m args below meth c T locs L hx hby hml hret hnm hown hZ ⟨fun i s hi => hf.1 i s (psub_get _ _ hP i s hi), hf.2⟩
theorem Runs.swap {top : Nat} {x y : Nat × Nat × Rec} {H : List (Nat × Nat × Rec)} (h : Runs C M k n pc P S (top, y :: x :: H) Q) : Runs C M k n pc P S (top, x :: y :: H) Q := by
  intro hw p e s m args below meth c T locs L hx hby hml hret hnm hown hZ hf hsz X hR hF
  exact h hw p e s m args below meth c T locs L hx hby hml hret hnm hown hZ hf hsz X hR.swap hF
end Rules
/- the steps that touch the heap -/
section Made
variable {p : Program} {l : Launch} {e : Env} {R : Room} {s : State} {m : MethodId} {args : Array Value} {below : List Frame} {meth : Method} {c : Code} {T : State} {locs : List Loc} {cells slots : Nat} {Z : State} {a0 : Array Value}
theorem ext_push (h : Heap) (x : Cell) : Ext h (h.push x) := ⟨by simp, fun a c q => by rw [Array.getElem?_push_lt (Array.getElem?_eq_some_iff.mp q).1]; exact (Array.getElem?_eq_getElem _).symm.trans q⟩
/-- 'new', with the heap's size behind it -/
theorem new1 (X : Stand p l e R s m args below meth c T locs cells slots) (hx : p.tables.exec = Jvm.exec) (hZ : Z.Warmed39 s.vm) {own C : String} {index n : Nat} (hown : s.vm.findClass own = some m.cls) (w : (Jvm.Cond.classLink own index C).before a0 Z = true) (wi : (Jvm.Cond.instantiable C n).before a0 Z = true) (wz : (Jvm.Cond.initialized C).before a0 Z = true)
    {g : JFrame} (hg : g.method = m) (hd : decode c.code g.pc = .ok (.new index, 3)) (hc : cells + 1 ≤ R.cells) (hl : slots + n ≤ R.slots) :
    ∃ T', Stand p l e R s m args below meth c T' locs (cells + 1) (slots + n) ∧ T'.heap.size = T.heap.size + 1 ∧ Ext T.heap T'.heap ∧ Exa Z T'.heap T.heap.size C ∧ (∀ {O nm d : String} {ty : FieldType}, Laid Z a0 C O nm d → parseFieldDescriptor d = some ty → Fld Z T'.heap T.heap.size O nm d (defaultValue ty)) ∧
      ∀ target, Steps p.tables e below (T'.setTop { g with pc := g.pc + 3, stack := .ref T.heap.size :: g.stack }) target → Steps p.tables e below (T.setTop g) target := by
  obtain ⟨vm', cC, kC, h1, h2, h3, h4, X', st⟩ := X.newCold hx hown (mv hZ w) (mv hZ wi) (mv hZ wz) hg hd hc hl
  rw [hZ.alike.findClass] at h1
  obtain ⟨kZ, z1, -⟩ := Vm.findClass_spec h1
  obtain ⟨k', z2, z3⟩ := hZ.alike.2.2 _ _ z1
  have ek : kC.instanceTypes = kZ.instanceTypes := by rw [Option.some.inj (h2.symm.trans z2), z3]
  obtain ⟨cell, hcell⟩ : ∃ cell : Cell, cell = { cls := cC, slots := kC.instanceTypes.map defaultValue, vm := .none } := ⟨_, rfl⟩
  rw [← hcell] at X' st
  have hp : ((T.setVm vm').pushCell cell).heap = T.heap.push cell := rfl
  have at' : (T.heap.push cell)[T.heap.size]? = some cell := by simp
  refine ⟨_, X', by rw [hp]; simp, by rw [hp]; exact ext_push _ _, ?_, fun {O nm d ty} L ht => ?_, st⟩
  · rw [hp]; exact ⟨cell, kZ, at', by rw [hcell]; exact h1, by rw [hcell]; exact z1, by rw [hcell]; rfl, fun _ => by rw [hcell]; simp [ek]⟩
  · rw [hp]
    obtain ⟨c1, k1, cf, kf, i, f, a1, a2, a3, a4, a5, a6, -⟩ := L.spec
    cases h1.symm.trans a1
    cases z1.symm.trans a2
    refine ⟨cell, cf, kf, i, f, at', a3, a4, by rw [hcell]; simp, by rw [hcell]; rfl, by rw [hcell]; exact a5, ?_⟩
    rw [hcell]; simp [ek, a6, (State.fieldFound?_type a3 ht).2]
theorem newArr1 (X : Stand p l e R s m args below meth c T locs cells slots) (hx : p.tables.exec = Jvm.exec) (hZ : Z.Warmed39 s.vm) {aty : ArrayType} (w : (Jvm.Cond.arrayClass (newarray.typeOf aty)).before a0 Z = true) {g : JFrame} (hg : g.method = m) (hd : decode c.code g.pc = .ok (.newarray aty, 2)) {n : Int32} {rest : List Value} (hs : g.stack = .int n :: rest)
    (hn : ¬ n < 0) (hb : n.toNatClampNeg * 8 ≤ 536870912) (hc : cells + 1 ≤ R.cells) (hl : slots + n.toNatClampNeg ≤ R.slots) :
    ∃ T' cA, Stand p l e R s m args below meth c T' locs (cells + 1) (slots + n.toNatClampNeg) ∧ T'.heap.size = T.heap.size + 1 ∧ Ext T.heap T'.heap ∧ Arr Z T'.heap T.heap.size (newA cA (newarray.typeOf aty) n) (newarray.typeOf aty) ∧
      ∀ target, Steps p.tables e below (T'.setTop { g with pc := g.pc + 2, stack := .ref T.heap.size :: rest }) target → Steps p.tables e below (T.setTop g) target := by
  have hcb : componentBytes (newarray.typeOf aty) ≤ 8 := by cases aty <;> decide
  obtain ⟨cA, kA, comp, h1, h2, h3, X', st⟩ := X.newarrayPrim hx (mvA hZ w) hg hd hs hn (Nat.le_trans (Nat.mul_le_mul_left _ hcb) hb) hc hl
  rw [hZ.alike.findClass] at h1
  obtain ⟨kZ, z1, -⟩ := Vm.findClass_spec h1
  obtain ⟨k', z2, z3⟩ := hZ.alike.2.2 _ _ z1
  have ek : kA.kind = kZ.kind := by rw [Option.some.inj (h2.symm.trans z2), z3]
  have hp : (T.pushCell (newA cA (newarray.typeOf aty) n)).heap = T.heap.push (newA cA (newarray.typeOf aty) n) := rfl
  refine ⟨T.pushCell (newA cA (newarray.typeOf aty) n), cA, X', by rw [hp]; simp, by rw [hp]; exact ext_push _ _, ?_, st⟩
  rw [hp]
  exact ⟨by simp, ⟨by simp [newA], kZ, z1, comp, by rw [← ek]; exact h3⟩, by simp [newA]⟩
end Made
section Heap
variable {C : Ctx} {M : Bdy} {k n pc q : Nat} {P P' : Pat} {S S' : List Value} {G : AH} {Q : Option Value → AH → Prop} {top : Nat} {a : Nat} {qq j idx : Nat} {ob : Rec} {H : List (Nat × Nat × Rec)} {nm ds : String}
theorem Runs.getI (d : DAt M pc (.getfield idx) 3 q) (w : Jvm.Cond.fieldLink M.1.cls idx K.1 nm ds ∈ tables_1) (hk : K.2.1[j]? = some (nm, ds)) (h : Runs C M k n q P (.int (gI ob j) :: S) (top, (a, qq, ob) :: H) Q) : Runs C M k n pc P (.ref a :: S) (top, (a, qq, ob) :: H) Q := by
  intro hw p e s m args below meth c T locs L hx hby hml hret hnm hown hZ hf hsz X hR hF
  have hq := d.2
  subst hq
  obtain ⟨T1, X1, e1, st1⟩ := getF X hx hZ hown (host := "") (Or.inl (hw _ w)) Via.refl rfl (hR.objs.2.2.2.1 j _ hk) (g := mkF m pc L (.ref a :: S)) rfl rfl (hb hby d.1)
  obtain ⟨T', locs', k', n', r, G', g1, g2, g3, g4, g5, g6, g7, g8⟩ := h hw p e s m args below meth c T1 locs L hx hby hml hret hnm hown hZ hf hsz X1 (by rw [e1]; exact hR) hF
  exact ⟨T', locs', k', n', r, G', g1, g2, g3, g4, g5, g6, g7, fun fs hr => st1 _ (g8 fs hr)⟩
theorem Runs.getA {ty : FieldType} {len : Int32} (d : DAt M pc (.getfield idx) 3 q) (hk : K.2.2[j]? = some (nm, ty, len)) (w : Jvm.Cond.fieldLink M.1.cls idx K.1 nm (aD ty) ∈ tables_1) (hq : j < qq) (h : Runs C M k n q P (.ref (a + 1 + j) :: S) (top, (a, qq, ob) :: H) Q) : Runs C M k n pc P (.ref a :: S) (top, (a, qq, ob) :: H) Q := by
  intro hw p e s m args below meth c T locs L hx hby hml hret hnm hown hZ hf hsz X hR hF
  have hqq := d.2
  subst hqq
  obtain ⟨T1, X1, e1, st1⟩ := getF X hx hZ hown (host := "") (Or.inl (hw _ w)) Via.refl rfl (hR.objs.2.2.2.2.1 j _ hk hq).1 (g := mkF m pc L (.ref a :: S)) rfl rfl (hb hby d.1)
  obtain ⟨T', locs', k', n', r, G', g1, g2, g3, g4, g5, g6, g7, g8⟩ := h hw p e s m args below meth c T1 locs L hx hby hml hret hnm hown hZ hf hsz X1 (by rw [e1]; exact hR) hF
  exact ⟨T', locs', k', n', r, G', g1, g2, g3, g4, g5, g6, g7, fun fs hr => st1 _ (g8 fs hr)⟩
theorem lw_of {Z : State} {a0 : Array Value} {meth : Method} (hw : ∀ d ∈ tables_1, d.before a0 Z = true) {C O n d own : String} (h : Jvm.Cond.lays C O n d ∈ tables_1 ∨ Jvm.Cond.laysFinal C O n d ∈ tables_1) (hc : Jvm.Cond.lays C O n d ∈ tables_1 ∨ (own = O ∧ meth.name = "<init>")) : (Jvm.Cond.lays C O n d).before a0 Z = true ∨ ((Jvm.Cond.laysFinal C O n d).before a0 Z = true ∧ own = O ∧ meth.name = "<init>") := by
  rcases hc with hc | hc
  · exact Or.inl (hw _ hc)
  · exact h.imp (hw _) (fun u => ⟨hw _ u, hc⟩)
/-- a field that may be written here: not final, or in a constructor of its class -/
def Mine (M : Bdy) (nm ds : String) : Prop := Jvm.Cond.lays K.1 K.1 nm ds ∈ tables_1 ∨ (M.1.cls = K.1 ∧ M.1.name = "<init>")
theorem Runs.putI {x : Int32} (d : DAt M pc (.putfield idx) 3 q) (w : Jvm.Cond.fieldLink M.1.cls idx K.1 nm "I" ∈ tables_1) (hk : K.2.1[j]? = some (nm, "I")) (hm : Mine M nm "I") (h : Runs C M k n q P S (top, (a, qq, sI ob j x) :: H) Q) : Runs C M k n pc P (.int x :: .ref a :: S) (top, (a, qq, ob) :: H) Q := by
  intro hw p e s m args below meth c T locs L hx hby hml hret hnm hown hZ hf hsz X hR hF
  have hqq := d.2
  subst hqq
  obtain ⟨T1, h1, X1, e1, W1, st1⟩ := putF X hx hZ hown (host := "") (Or.inl (hw _ w)) Via.refl rfl (hR.objs.2.2.2.1 j _ hk) hR.objs.2.2.1 (lw_of hw ((All.mem kS (List.mem_of_getElem? hk)).1) (hm.imp id (fun u => ⟨u.1, hnm.trans u.2⟩))) (hw _ kI) (ty := .int) (by decide) rfl rfl (g := mkF m pc L (.int x :: .ref a :: S)) rfl rfl (hb hby d.1)
  obtain ⟨T', locs', k', n', r, G', g1, g2, g3, g4, g5, g6, g7, g8⟩ := h hw p e s m args below meth c T1 _ L hx hby hml hret hnm hown hZ hf hsz X1 (by rw [e1]; exact hR.putI hw hk W1) (Fr.snoc X1 hF hR.objs.1)
  exact ⟨T', locs', k', n', r, G', g1, g2, g3, g4, g5, g6, g7, fun fs hr => st1 _ (g8 fs hr)⟩
theorem Runs.putZ {x y : Int32} (d : DAt M pc (.putfield idx) 3 q) (w : Jvm.Cond.fieldLink M.1.cls idx K.1 nm "Z" ∈ tables_1) (hk : K.2.1[j]? = some (nm, "Z")) (hm : Mine M nm "Z") (hy : nar .boolean x = y) (h : Runs C M k n q P S (top, (a, qq, sI ob j y) :: H) Q) : Runs C M k n pc P (.int x :: .ref a :: S) (top, (a, qq, ob) :: H) Q := by
  subst hy
  intro hw p e s m args below meth c T locs L hx hby hml hret hnm hown hZ hf hsz X hR hF
  have hqq := d.2
  subst hqq
  obtain ⟨T1, h1, X1, e1, W1, st1⟩ := putFN X hx hZ hown (hw _ w) Via.refl rfl (hR.objs.2.2.2.1 j _ hk) hR.objs.2.2.1 (lw_of hw ((All.mem kS (List.mem_of_getElem? hk)).1) (hm.imp id (fun u => ⟨u.1, hnm.trans u.2⟩))) (hw _ kI) (ty := .boolean) (v' := .int (nar .boolean x)) (by decide) rfl (fits_nar_bool _) (g := mkF m pc L (.int x :: .ref a :: S)) rfl rfl (hb hby d.1)
  obtain ⟨T', locs', k', n', r, G', g1, g2, g3, g4, g5, g6, g7, g8⟩ := h hw p e s m args below meth c T1 _ L hx hby hml hret hnm hown hZ hf hsz X1 (by rw [e1]; exact hR.putI hw hk W1) (Fr.snoc X1 hF hR.objs.1)
  exact ⟨T', locs', k', n', r, G', g1, g2, g3, g4, g5, g6, g7, fun fs hr => st1 _ (g8 fs hr)⟩
theorem Runs.ialoadA {i len : Int32} (d : DAt M pc .iaload 1 q) (hk : K.2.2[j]? = some (nm, .int, len)) (hq : j < qq) (hi : ¬ i < 0 ∧ i < len) (h : Runs C M k n q P (.int (gA ob j i) :: S) (top, (a, qq, ob) :: H) Q) : Runs C M k n pc P (.int i :: .ref (a + 1 + j) :: S) (top, (a, qq, ob) :: H) Q := by
  have hqq := d.2
  subst hqq
  refine Runs.pure d (fun p e s m args below meth c T locs L hw hx hown hZ hd hP hsz hR X => ⟨L, hP, hsz, fun t r => ?_⟩) h
  obtain ⟨cl, A, Sz, V⟩ := (hR.objs.2.2.2.2.1 j _ hk hq).2
  exact X.iaload hx (j := i) (v := .int (gA ob j i)) A.1 (State.isArrayOf_alike hZ.alike A.2.1) A.2.2 (inb_of Sz hi) (V i hi.1 hi.2) (g := mkF m pc L (.int i :: .ref (a + 1 + j) :: S)) rfl rfl hd _ r
theorem Runs.baloadA {i len : Int32} (d : DAt M pc .baload 1 q) (hk : K.2.2[j]? = some (nm, .boolean, len)) (hq : j < qq) (hi : ¬ i < 0 ∧ i < len) (h : Runs C M k n q P (.int (gA ob j i) :: S) (top, (a, qq, ob) :: H) Q) : Runs C M k n pc P (.int i :: .ref (a + 1 + j) :: S) (top, (a, qq, ob) :: H) Q := by
  have hqq := d.2
  subst hqq
  refine Runs.pure d (fun p e s m args below meth c T locs L hw hx hown hZ hd hP hsz hR X => ⟨L, hP, hsz, fun t r => ?_⟩) h
  obtain ⟨cl, A, Sz, V⟩ := (hR.objs.2.2.2.2.1 j _ hk hq).2
  exact X.baloadBooleans hx (j := i) (v := .int (gA ob j i)) A.1 (State.isArrayOf_alike hZ.alike A.2.1) A.2.2 (inb_of Sz hi) (V i hi.1 hi.2) (g := mkF m pc L (.int i :: .ref (a + 1 + j) :: S)) rfl rfl hd _ r
theorem Runs.laloadA {i len : Int32} (d : DAt M pc .laload 1 q) (hk : K.2.2[j]? = some (nm, .long, len)) (hq : j < qq) (hi : ¬ i < 0 ∧ i < len) (h : Runs C M k n q P (.long (gJ ob j i) :: S) (top, (a, qq, ob) :: H) Q) : Runs C M k n pc P (.int i :: .ref (a + 1 + j) :: S) (top, (a, qq, ob) :: H) Q := by
  have hqq := d.2
  subst hqq
  refine Runs.pure d (fun p e s m args below meth c T locs L hw hx hown hZ hd hP hsz hR X => ⟨L, hP, hsz, fun t r => ?_⟩) h
  obtain ⟨cl, A, Sz, V⟩ := (hR.objs.2.2.2.2.1 j _ hk hq).2
  exact X.laload hx (j := i) (v := .long (gJ ob j i)) A.1 (State.isArrayOf_alike hZ.alike A.2.1) A.2.2 (inb_of Sz hi) (V i hi.1 hi.2) (g := mkF m pc L (.int i :: .ref (a + 1 + j) :: S)) rfl rfl hd _ r
theorem Runs.iastoreA {i x len : Int32} (d : DAt M pc .iastore 1 q) (hk : K.2.2[j]? = some (nm, .int, len)) (hq : j < qq) (hi : ¬ i < 0 ∧ i < len) (h : Runs C M k n q P S (top, (a, qq, sA ob j i x) :: H) Q) : Runs C M k n pc P (.int x :: .int i :: .ref (a + 1 + j) :: S) (top, (a, qq, ob) :: H) Q := by
  intro hw p e s m args below meth c T locs L hx hby hml hret hnm hown hZ hf hsz X hR hF
  have hqq := d.2
  subst hqq
  obtain ⟨cl, A, Sz, V⟩ := (hR.objs.2.2.2.2.1 j _ hk hq).2
  obtain ⟨T1, h1, X1, e1, W1, st1⟩ := stI X hx hZ rfl A (j := i) (x := x) (inb_of Sz hi) (g := mkF m pc L (.int x :: .int i :: .ref (a + 1 + j) :: S)) rfl rfl (hb hby d.1)
  obtain ⟨T', locs', k', n', r, G', g1, g2, g3, g4, g5, g6, g7, g8⟩ := h hw p e s m args below meth c T1 _ L hx hby hml hret hnm hown hZ hf hsz X1 (by rw [e1]; exact hR.putA hk hq (by simp) hi W1) (Fr.snoc X1 hF (by have := hR.objs.1; omega))
  exact ⟨T', locs', k', n', r, G', g1, g2, g3, g4, g5, g6, g7, fun fs hr => st1 _ (g8 fs hr)⟩
theorem Runs.bastoreA {i x len : Int32} (d : DAt M pc .bastore 1 q) (hk : K.2.2[j]? = some (nm, .boolean, len)) (hq : j < qq) (hi : ¬ i < 0 ∧ i < len) {y : Int32} (hy : nar .boolean x = y) (h : Runs C M k n q P S (top, (a, qq, sA ob j i y) :: H) Q) : Runs C M k n pc P (.int x :: .int i :: .ref (a + 1 + j) :: S) (top, (a, qq, ob) :: H) Q := by
  subst hy
  intro hw p e s m args below meth c T locs L hx hby hml hret hnm hown hZ hf hsz X hR hF
  have hqq := d.2
  subst hqq
  obtain ⟨cl, A, Sz, V⟩ := (hR.objs.2.2.2.2.1 j _ hk hq).2
  obtain ⟨T1, h1, X1, e1, W1, st1⟩ := stZ X hx hZ rfl A (j := i) (x := x) (inb_of Sz hi) (g := mkF m pc L (.int x :: .int i :: .ref (a + 1 + j) :: S)) rfl rfl (hb hby d.1)
  obtain ⟨T', locs', k', n', r, G', g1, g2, g3, g4, g5, g6, g7, g8⟩ := h hw p e s m args below meth c T1 _ L hx hby hml hret hnm hown hZ hf hsz X1 (by rw [e1]; exact hR.putA hk hq (by simp) hi W1) (Fr.snoc X1 hF (by have := hR.objs.1; omega))
  exact ⟨T', locs', k', n', r, G', g1, g2, g3, g4, g5, g6, g7, fun fs hr => st1 _ (g8 fs hr)⟩
theorem Runs.lastoreA {i len : Int32} {x : Int64} (d : DAt M pc .lastore 1 q) (hk : K.2.2[j]? = some (nm, .long, len)) (hq : j < qq) (hi : ¬ i < 0 ∧ i < len) (h : Runs C M k n q P S (top, (a, qq, sJ ob j i x) :: H) Q) : Runs C M k n pc P (.long x :: .int i :: .ref (a + 1 + j) :: S) (top, (a, qq, ob) :: H) Q := by
  intro hw p e s m args below meth c T locs L hx hby hml hret hnm hown hZ hf hsz X hR hF
  have hqq := d.2
  subst hqq
  obtain ⟨cl, A, Sz, V⟩ := (hR.objs.2.2.2.2.1 j _ hk hq).2
  obtain ⟨T1, h1, X1, e1, W1, st1⟩ := stJ X hx hZ rfl A (j := i) (x := x) (inb_of Sz hi) (g := mkF m pc L (.long x :: .int i :: .ref (a + 1 + j) :: S)) rfl rfl (hb hby d.1)
  obtain ⟨T', locs', k', n', r, G', g1, g2, g3, g4, g5, g6, g7, g8⟩ := h hw p e s m args below meth c T1 _ L hx hby hml hret hnm hown hZ hf hsz X1 (by rw [e1]; exact hR.putJ hk hq rfl hi W1) (Fr.snoc X1 hF (by have := hR.objs.1; omega))
  exact ⟨T', locs', k', n', r, G', g1, g2, g3, g4, g5, g6, g7, fun fs hr => st1 _ (g8 fs hr)⟩
/-- the script: an array that stood before the law began -/
def ScrF (C : Ctx) (sa : Nat) (z : Int32) (f : Int32 → Int32) : Prop := ∃ cl : Cell, Scr C.2.1 C.2.1.heap sa cl z ∧ f = atv cl
theorem Runs.lenS {sa : Nat} {z : Int32} {f : Int32 → Int32} (hs : ScrF C sa z f) (d : DAt M pc .arraylength 1 q) (h : Runs C M k n q P (.int z :: S) G Q) : Runs C M k n pc P (.ref sa :: S) G Q := by
  have hqq := d.2
  subst hqq
  refine Runs.pure d (fun p e s m args below meth c T locs L hw hx hown hZ hd hP hsz hR X => ⟨L, hP, hsz, fun t r => ?_⟩) h
  obtain ⟨cl, F, -⟩ := hs
  obtain ⟨A, Sz, N, V⟩ := F.ext hR.2.1.2
  exact X.arraylength hx A.1 (State.isArrayOf_alike hZ.alike A.2.1) (g := mkF m pc L (.ref sa :: S)) rfl rfl hd _ (by rw [len_of Sz N]; exact r)
theorem Runs.ialoadS {sa : Nat} {z i : Int32} {f : Int32 → Int32} (hs : ScrF C sa z f) (d : DAt M pc .iaload 1 q) (hi : ¬ i < 0 ∧ i < z) (h : Runs C M k n q P (.int (f i) :: S) G Q) : Runs C M k n pc P (.int i :: .ref sa :: S) G Q := by
  have hqq := d.2
  subst hqq
  refine Runs.pure d (fun p e s m args below meth c T locs L hw hx hown hZ hd hP hsz hR X => ⟨L, hP, hsz, fun t r => ?_⟩) h
  obtain ⟨cl, F, rfl⟩ := hs
  obtain ⟨A, Sz, N, V⟩ := F.ext hR.2.1.2
  exact X.iaload hx (j := i) (v := .int (atv cl i)) A.1 (State.isArrayOf_alike hZ.alike A.2.1) A.2.2 (inb_of Sz hi) (V i (inb_of Sz hi)) (g := mkF m pc L (.int i :: .ref sa :: S)) rfl rfl hd _ r
/- leaving -/
theorem Runs.retI {v : Int32} (d : DAt M pc .ireturn 1 q) (hret : M.2.2.2.1 = some .int) (hk : k ≤ M.2.2.2.2.cells ∧ n ≤ M.2.2.2.2.slots) (hQ : Q (some (.int v)) G) : Runs C M k n pc P (.int v :: S) G Q := by
  intro hw p e s m args below meth c T locs L hx hby hml hr0 hnm hown hZ hf hsz X hR hF
  exact ⟨T, locs, k, n, _, G, X, hk.1, hk.2, hR, hF, hQ, (fun u => by rw [hret] at u; cases u), fun fs hr => Jvm.RoadKit.retI X hx (hr0.trans hret) (hb hby d.1) hr⟩
theorem Runs.retZ {v : Int32} (d : DAt M pc .ireturn 1 q) (hret : M.2.2.2.1 = some .boolean) (hk : k ≤ M.2.2.2.2.cells ∧ n ≤ M.2.2.2.2.slots) {y : Int32} (hy : nar .boolean v = y) (hQ : Q (some (.int y)) G) : Runs C M k n pc P (.int v :: S) G Q := by
  subst hy
  intro hw p e s m args below meth c T locs L hx hby hml hr0 hnm hown hZ hf hsz X hR hF
  exact ⟨T, locs, k, n, _, G, X, hk.1, hk.2, hR, hF, hQ, (fun u => by rw [hret] at u; cases u), fun fs hr => retN X hx (t := .boolean) (hr0.trans hret) (by simp) (hb hby d.1) hr⟩
theorem Runs.retJ {v : Int64} (d : DAt M pc .lreturn 1 q) (hret : M.2.2.2.1 = some .long) (hk : k ≤ M.2.2.2.2.cells ∧ n ≤ M.2.2.2.2.slots) (hQ : Q (some (.long v)) G) : Runs C M k n pc P (.long v :: []) G Q := by
  intro hw p e s m args below meth c T locs L hx hby hml hr0 hnm hown hZ hf hsz X hR hF
  exact ⟨T, locs, k, n, _, G, X, hk.1, hk.2, hR, hF, hQ, (fun u => by rw [hret] at u; cases u), fun fs hr => X.lreturnOut hx (hr0.trans hret) (hb hby d.1) hr⟩
theorem Runs.retV (d : DAt M pc .return_ 1 q) (hret : M.2.2.2.1 = none) (hk : k ≤ M.2.2.2.2.cells ∧ n ≤ M.2.2.2.2.slots) (hQ : Q none G) : Runs C M k n pc P [] G Q := by
  intro hw p e s m args below meth c T locs L hx hby hml hr0 hnm hown hZ hf hsz X hR hF
  exact ⟨T, locs, k, n, _, G, X, hk.1, hk.2, hR, hF, hQ, (fun _ => rfl), fun fs hr => X.returnOut hx (hr0.trans hret) (hb hby d.1) hr⟩
/- a new object, and the arrays that its constructor makes -/
theorem Runs.newK (d : DAt M pc (.new idx) 3 q) (w : Jvm.Cond.classLink M.1.cls idx K.1 ∈ tables_1) (hc : k + 1 ≤ M.2.2.2.2.cells ∧ n + kN ≤ M.2.2.2.2.slots) {k' n' : Nat} (hk' : k + 1 = k') (hn' : n + kN = n') {H : List (Nat × Nat × Rec)} (hd : ∀ x ∈ H, x.1 + x.2.1 < top) (h : Runs C M k' n' q P (.ref top :: S) (top + 1, (top, 0, zrec) :: H) Q) : Runs C M k n pc P S (top, H) Q := by
  subst hk' hn'
  intro hw p e s m args below meth c T locs L hx hby hml hr0 hnm hown hZ hf hsz X hR hF
  have hqq := d.2
  subst hqq
  obtain ⟨T2, X2, s2, E2, A2, D2, st2⟩ := new1 X hx hZ hown (hw _ w) (hw _ kI) (hw _ kZ) (g := mkF m pc L S) rfl (hb hby d.1) hc.1 hc.2
  have hs : T.heap.size = top := hR.1
  rw [hs] at A2 D2 st2 s2
  have hR2 : Rep C.2.1 C.2.2.1 T2.heap (top + 1, (top, 0, zrec) :: H) := by
    refine ⟨s2, hR.2.1.ext E2, fun x hx' => ?_, ?_⟩
    · rcases List.mem_cons.mp hx' with rfl | hx'
      · refine ⟨?_, by simp, A2, fun k nd hk => ?_, fun k t hk hq => by simp at hq, fun k t hk hq => ?_⟩
        · have := hR.2.1.2.1; rw [hR.2.1.1] at this; simp only; omega
        · rcases (All.mem kS (List.mem_of_getElem? hk)).2 with e | e
          · have := D2 (laidS hw hk) (ty := .int) (by rw [e]; decide); exact this
          · have := D2 (laidS hw hk) (ty := .boolean) (by rw [e]; decide); exact this
        · have := D2 (laidA hw hk) (pfA hk); exact this
      · obtain ⟨p1, p2, p3⟩ := hR.2.2.1 x hx'
        exact ⟨p1, by simp only at p2 ⊢; omega, p3.ext E2⟩
    · exact List.pairwise_cons.mpr ⟨fun y hy => Or.inr (hd y hy), hR.2.2.2⟩
  obtain ⟨T', locs', k', n', r, G', g1, g2, g3, g4, g5, g6, g7, g8⟩ := h hw p e s m args below meth c T2 _ L hx hby hml hr0 hnm hown hZ hf hsz X2 hR2 hF
  exact ⟨T', locs', k', n', r, G', g1, g2, g3, g4, g5, g6, g7, fun fs hr => st2 _ (g8 fs hr)⟩
/-- newarray and the putfield behind it: the next array of an object that is being made -/
theorem Runs.newArr {aty : ArrayType} {ty : FieldType} {len : Int32} {q1 : Nat} (d : DAt M pc (.newarray aty) 2 q1) (d' : DAt M q1 (.putfield idx) 3 q) (hk : K.2.2[j]? = some (nm, ty, len)) (w : Jvm.Cond.fieldLink M.1.cls idx K.1 nm (aD ty) ∈ tables_1) (ht : newarray.typeOf aty = ty) (wa : Jvm.Cond.arrayClass ty ∈ tables_1) (hm : Mine M nm (aD ty))
    (htop : top = a + 1 + j) (hlen : ¬ len < 0 ∧ len.toNatClampNeg * 8 ≤ 536870912) (hc : k + 1 ≤ M.2.2.2.2.cells ∧ n + len.toNatClampNeg ≤ M.2.2.2.2.slots) (hz : (∀ i, ob.2.1 j i = 0) ∧ (∀ i, ob.2.2 j i = 0)) {j' top' k' n' : Nat} (hj' : j + 1 = j') (ht' : top + 1 = top') (hk' : k + 1 = k') (hn' : n + len.toNatClampNeg = n')
    (h : Runs C M k' n' q P S (top', (a, j', ob) :: H) Q) : Runs C M k n pc P (.int len :: .ref a :: S) (top, (a, j, ob) :: H) Q := by
  subst hj' ht' hk' hn'
  intro hw p e s m args below meth c T locs L hx hby hml hr0 hnm hown hZ hf hsz X hR hF
  have hqq := d.2
  have hqq' := d'.2
  subst hqq hqq' ht
  obtain ⟨T1, cA, X1, s1, E1, A1, st1⟩ := newArr1 X hx hZ (hw _ wa) (g := mkF m pc L (.int len :: .ref a :: S)) rfl (hb hby d.1) rfl hlen.1 hlen.2 hc.1 hc.2
  have hs : T.heap.size = top := hR.1
  rw [hs] at A1 st1 s1
  have O1 := hR.objs.2.2.ext E1
  obtain ⟨T2, h2, X2, e2, W2, st2⟩ := putF X1 hx hZ hown (host := "") (Or.inl (hw _ w)) Via.refl rfl (O1.2.2.2 j _ hk (Nat.le_refl _)) O1.1 (lw_of hw ((All.mem kA (List.mem_of_getElem? hk)).1) (hm.imp id (fun u => ⟨u.1, hnm.trans u.2⟩))) (hw _ kI) (ty := .array (newarray.typeOf aty)) (pfA hk) rfl rfl (g := mkF m (pc + 2) L (.ref top :: .ref a :: S)) rfl rfl (hb hby d'.1)
  have hts : (newarray.typeOf aty = .int ∨ newarray.typeOf aty = .boolean ∨ newarray.typeOf aty = .long) := (All.mem kA (List.mem_of_getElem? hk)).2.1
  have hA := arr_new A1 hts hz
  have hR2 : Rep C.2.1 C.2.2.1 T2.heap (top + 1, (a, j + 1, ob) :: H) := by rw [e2]; exact hR.addA hw E1 s1 htop hk hA W2
  obtain ⟨T', locs', k', n', r, G', g1, g2, g3, g4, g5, g6, g7, g8⟩ := h hw p e s m args below meth c T2 _ L hx hby hml hr0 hnm hown hZ hf hsz X2 hR2 (Fr.snoc X2 hF hR.objs.1)
  exact ⟨T', locs', k', n', r, G', g1, g2, g3, g4, g5, g6, g7, fun fs hr => st1 _ (st2 _ (g8 fs hr))⟩
theorem Runs.initO {W : Nat} (d : DAt M pc (.invokespecial idx) 3 q) (w1 : Jvm.Cond.methodLink M.1.cls idx Lib.objectInit ∈ tables_1) (w2 : Jvm.Cond.instanceMethod Lib.objectInit ∈ tables_1) (w3 : Jvm.Cond.code Lib.objectInit ⟨#[0xb1]⟩ 1 none ∈ tables_1) (hW : (S.map fun v => v.category).sum = W) (hc : 1 ≤ M.2.2.2.2.frames ∧ W + 12 ≤ M.2.2.2.2.locals) (h : Runs C M k n q P S G Q) : Runs C M k n pc P (.ref a :: S) G Q := by
  intro hw p e s m args below meth c T locs L hx hby hml hr0 hnm hown hZ hf hsz X hR hF
  have hqq := d.2
  subst hqq
  obtain ⟨T1, X1, e1, st1⟩ := Jvm.RoadKit.initO X hx hZ hown (hw _ w1) (hw _ w2) (hw _ w3) rfl (g := mkF m pc L (.ref a :: S)) rfl (by rw [hml]; exact hsz) rfl (hb hby d.1) hc.1 (W := W) (by show 2 * 0 + _ ≤ _; omega) hc.2
  obtain ⟨T', locs', k', n', r, G', g1, g2, g3, g4, g5, g6, g7, g8⟩ := h hw p e s m args below meth c T1 _ L hx hby hml hr0 hnm hown hZ hf hsz X1 (by rw [e1]; exact hR) hF
  exact ⟨T', locs', k', n', r, G', g1, g2, g3, g4, g5, g6, g7, fun fs hr => st1 _ (g8 fs hr)⟩
end Heap
/- a body's contract, and the calls that are paid by one -/
def Pays (C : Ctx) (N : Bdy) (as : List Value) (G : AH) (Q : Option Value → AH → Prop) : Prop :=
  Ok C → ∀ h0 : Heap, Rep C.2.1 C.2.2.1 h0 G → ∀ ws : List Jvm.Cond, MetFree C.1 N.1 (head1 (Jvm.Cond.code N.1 N.2.1 N.2.2.1 N.2.2.2.1 :: ws) N.2.2.2.2) (fun a U => a = as.toArray ∧ C.2.1.Warmed39 U.vm ∧ U.heap = h0) (fun _ _ _ _ _ => True)
    (fun _ U o U' => ∃ v L, o = .returned v ∧ (Fr C.2.2.1 L ∧ ∃ G', Rep C.2.1 C.2.2.1 U'.heap G' ∧ Q v G') ∧ FrameEnd U o U' L N.2.2.2.2.cells N.2.2.2.2.slots)
def lay : List Value → List Slot
  | [] => []
  | v :: l => if v.category = 2 then .val v :: .second :: lay l else .val v :: lay l
theorem lay_foldl (l : List Value) : ∀ acc : Array Slot, (l.foldl (fun acc v => if v.category = 2 then (acc.push (.val v)).push .second else acc.push (.val v)) acc).toList = acc.toList ++ lay l := by
  induction l with
  | nil => intro acc; simp [lay]
  | cons v l ih =>
    intro acc
    rw [List.foldl_cons, ih]
    by_cases h : v.category = 2 <;> simp [lay, h]
theorem args_lay (as : List Value) (ml : Nat) : argsToLocals as.toArray ml = (lay as ++ List.replicate (ml - (lay as).length) Slot.unset).toArray := by
  have h := lay_foldl as #[]
  apply Array.ext'
  simp only [argsToLocals, Array.toList_append, List.toList_toArray] at *
  rw [show (as.toArray.foldl (init := #[]) fun acc v => if v.category = 2 then (acc.push (Slot.val v)).push .second else acc.push (.val v)).toList = lay as by simpa using h]
  congr 1
  rw [← Array.length_toList, show (as.toArray.foldl (init := #[]) fun acc v => if v.category = 2 then (acc.push (Slot.val v)).push .second else acc.push (.val v)).toList = lay as by simpa using h]
  simp
def WFL (l : List Slot) : Prop := (∀ i : Nat, l[i]? = some .second → ∃ (j : Nat) (v : Value), i = j + 1 ∧ l[j]? = some (.val v) ∧ v.category = 2) ∧ (∀ (i : Nat) (v : Value), l[i]? = some (.val v) → v.category = 2 → l[i + 1]? = some .second)
theorem WFL.unset (n : Nat) : WFL (List.replicate n Slot.unset) := by
  refine ⟨fun i h => ?_, fun i v h => ?_⟩ <;> (rw [List.getElem?_replicate] at h; split at h <;> cases h)
theorem WFL.one {l : List Slot} {v : Value} (h : WFL l) (hv : v.category ≠ 2) : WFL (.val v :: l) := by
  refine ⟨fun i hi => ?_, fun i w hi hw => ?_⟩
  · cases i with
    | zero => simp at hi
    | succ i =>
      obtain ⟨j, w, e1, e2, e3⟩ := h.1 i (by simpa using hi)
      exact ⟨j + 1, w, by omega, by simpa using e2, e3⟩
  · cases i with
    | zero => simp at hi; subst hi; exact absurd hw hv
    | succ i => have := h.2 i w (by simpa using hi) hw; simpa using this
theorem WFL.two {l : List Slot} {v : Value} (h : WFL l) (hv : v.category = 2) : WFL (.val v :: .second :: l) := by
  refine ⟨fun i hi => ?_, fun i w hi hw => ?_⟩
  · match i, hi with
    | 0, hi => simp at hi
    | 1, hi => exact ⟨0, v, rfl, by simp, hv⟩
    | i + 2, hi =>
      obtain ⟨j, w, e1, e2, e3⟩ := h.1 i (by simpa using hi)
      exact ⟨j + 2, w, by omega, by simpa using e2, e3⟩
  · match i, hi with
    | 0, hi => simp
    | 1, hi => simp at hi
    | i + 2, hi => have := h.2 i w (by simpa using hi) hw; simpa using this
theorem WFL.lay (as : List Value) (n : Nat) : WFL (lay as ++ List.replicate n Slot.unset) := by
  induction as with
  | nil => exact WFL.unset n
  | cons v l ih =>
    by_cases h : v.category = 2
    · simpa [Jvm.Pilot.@@N@@.lay, h] using ih.two h
    · simpa [Jvm.Pilot.@@N@@.lay, h] using ih.one h
def pforget : List Bool → Pat → Pat
  | [], _ => []
  | _, [] => []
  | true :: ms, x :: l => x :: pforget ms l
  | false :: ms, _ :: l => none :: pforget ms l
theorem pforget_get : ∀ (ms : List Bool) (P : Pat) (i : Nat) (s : Slot), pget (pforget ms P) i = some s → pget P i = some s
  | [], _, i, s, h => by simp [pforget, pget] at h
  | _ :: _, [], i, s, h => by simp [pforget, pget] at h
  | true :: ms, x :: l, 0, s, h => h
  | true :: ms, x :: l, i + 1, s, h => pforget_get ms l i s h
  | false :: ms, x :: l, 0, s, h => by simp [pforget, pget] at h
  | false :: ms, x :: l, i + 1, s, h => pforget_get ms l i s h
section Calls
variable {C : Ctx} {M N : Bdy} {k n pc q : Nat} {P P' : Pat} {S S' : List Value} {G G1 : AH} {Q : Option Value → AH → Prop} {top : Nat} {a : Nat} {qq j idx W : Nat} {ob : Rec} {H : List (Nat × Nat × Rec)} {as : List Value}
theorem Runs.forget (ms : List Bool) (hP : pforget ms P = P') (h : Runs C M k n pc P' S G Q) : Runs C M k n pc P S G Q := by
  intro hw p e s m args below meth c T locs L hx hby hml hret hnm hown hZ hf
  subst hP
  exact h hw p e s m args below meth c T locs L hx hby hml hret hnm hown hZ ⟨fun i s hi => hf.1 i s (pforget_get _ _ i s hi), hf.2⟩
theorem Pays.of (hpl : plainName N.1.cls = true) (hml : (lay as).length ≤ N.2.2.1) (x : Nat) (hP : (lay as).map some ++ List.replicate x none = P) (h : Runs C N 0 0 0 P [] G Q) : Pays C N as G Q := by
  intro hw h0 hR ws
  refine MetFree.of_bodySF (plainFor_of_name hpl) hisR ?_
  intro p e s m args below meth c s₁ Bd hml0 hp hK
  obtain ⟨rfl, hZ, hh⟩ := hp
  have X0 : Stand p C.1 e N.2.2.2.2 s m as.toArray below meth c s₁ [] 0 0 := Stand.of_body Bd
  have e0 : s₁.heap = h0 := by rw [← hh, Bd.state]; rfl
  obtain ⟨L, hL⟩ : ∃ L : Array Slot, L = (lay as ++ List.replicate (N.2.2.1 - (lay as).length) Slot.unset).toArray := ⟨_, rfl⟩
  have hfit : Fits P L := by
    subst hP hL
    refine ⟨fun i s hi => ?_, ?_⟩
    · rw [pget_eq] at hi
      cases hq : (lay as)[i]? with
      | none =>
        rw [List.getElem?_append_right (by simpa using hq), List.getElem?_replicate] at hi
        split at hi <;> simp at hi
      | some y =>
        have hlt := (List.getElem?_eq_some_iff.mp hq).1
        rw [List.getElem?_append_left (by simpa using hlt), List.getElem?_map, hq] at hi
        have this : y = s := by simpa using hi
        simp only [List.getElem?_toArray]
        rw [List.getElem?_append_left hlt, hq, this]
    · have := WFL.lay as (N.2.2.1 - (lay as).length)
      refine ⟨fun i hi => ?_, fun i v hi hv => ?_⟩
      · rw [List.getElem?_toArray] at hi
        obtain ⟨j, v, e1, e2, e3⟩ := this.1 i hi
        exact ⟨j, v, e1, by rw [List.getElem?_toArray]; exact e2, e3⟩
      · rw [List.getElem?_toArray] at hi ⊢
        exact this.2 i v hi hv
  obtain ⟨T', locs', k', n', r, G', g1, g2, g3, g4, g5, g6, g7, g8⟩ := h hw p e s m as.toArray below meth c s₁ [] L Bd.exec Bd.bytes hml0 Bd.returns (name_of_methodNamed Bd.named Bd.method).1 (findClass_of_methodNamed Bd.named) hZ hfit (by rw [hL]; simp; omega) X0 (by rw [e0]; exact hR) (Fr.nil _)
  obtain ⟨fs, hr, hrun, hended, hW, hsame⟩ := g1.leave (v := r) (fun u => g7 (by rw [← Bd.returns]; exact u))
  refine ⟨_, _, ?_, hrun, hended, _, _, rfl, ⟨g5, G', ?_, g6⟩, ⟨_, rfl⟩, hW, hsame.mono g2 g3⟩
  · have ef : entryFrame m as.toArray N.2.2.1 = mkF m 0 L [] := by
      rw [hL, ← args_lay]; rfl
    rw [ef]; exact g8 fs hr
  · exact g4
abbrev room_al (M N : Bdy) (W k n : Nat) : Prop := N.2.2.2.2.frames + 1 ≤ M.2.2.2.2.frames ∧ W + (N.2.2.1 + 11) + N.2.2.2.2.locals ≤ M.2.2.2.2.locals ∧ k + N.2.2.2.2.cells ≤ M.2.2.2.2.cells ∧ n + N.2.2.2.2.slots ≤ M.2.2.2.2.slots
abbrev room_ok (M N : Bdy) (W : Nat) : Prop := N.2.2.2.2.frames + 1 ≤ M.2.2.2.2.frames ∧ W + (N.2.2.1 + 11) + N.2.2.2.2.locals ≤ M.2.2.2.2.locals ∧ N.2.2.2.2.cells = 0 ∧ N.2.2.2.2.slots = 0
abbrev full_ok (M : Bdy) (k n : Nat) : Prop := k ≤ M.2.2.2.2.cells ∧ n ≤ M.2.2.2.2.slots
theorem room_ok.al (h : room_ok M N W) (f : full_ok M k n) : room_al M N W k n := ⟨h.1, h.2.1, by rw [h.2.2.1]; exact f.1, by rw [h.2.2.2]; exact f.2⟩
abbrev code_w (N : Bdy) : Prop := Jvm.Cond.code N.1 N.2.1 N.2.2.1 N.2.2.2.1 ∈ tables_1 ∧ Jvm.Cond.initialized N.1.cls ∈ tables_1 ∧ (N.1.cls ≠ "java/lang/invoke/MethodHandle" ∧ N.1.cls ≠ "java/lang/invoke/VarHandle")
def arity (N : Bdy) (na : Nat) : Prop := ∃ ps r, parseMethodDescriptor N.1.desc = some ⟨ps, r⟩ ∧ na = ps.length
theorem arity.len {na : Nat} (h : arity N na) (e : as.length = na) : ∀ sig, parseMethodDescriptor N.1.desc = some sig → as.length = sig.parameters.length := by
  obtain ⟨ps, r, h1, h2⟩ := h
  exact lenOf h1 (e.trans h2)
theorem after_call {v : Option Value} {p : Program} {e : Env} {s : State} {m : MethodId} {args : Array Value} {below : List Frame} {meth : Method} {c : Code} {T T0 : State} {locs : List Loc} {L : Array Slot} {QN : Option Value → AH → Prop} {Lc : List Loc}
    (hw : Ok C) (hx : p.tables.exec = Jvm.exec) (hby : c.code = M.2.1) (hml : c.maxLocals = M.2.2.1) (hret : meth.sig.returnType = M.2.2.2.1) (hnm : meth.name = M.1.name) (hown : s.vm.findClass M.1.cls = some m.cls) (hZ : C.2.1.Warmed39 s.vm) (hf : Fits P L) (hsz : L.size = M.2.2.1) (hF : Fr C.2.2.1 locs)
    (X : Stand p C.1 e M.2.2.2.2 s m args below meth c T (locs ++ Lc) (k + N.2.2.2.2.cells) (n + N.2.2.2.2.slots)) (hQ : Fr C.2.2.1 Lc ∧ ∃ G', Rep C.2.1 C.2.2.1 T.heap G' ∧ QN v G')
    (h : ∀ v G', QN v G' → Runs C M (k + N.2.2.2.2.cells) (n + N.2.2.2.2.slots) (pc + 3) P (v.toList ++ S') G' Q)
    (st : ∀ t, Steps p.tables e below (T.setTop (mkF m (pc + 3) L (v.toList ++ S'))) t → Steps p.tables e below (T0.setTop (mkF m pc L S)) t) :
    ∃ (T' : State) (locs' : List Loc) (k' n' : Nat) (r : Option Value) (G' : AH), Stand p C.1 e M.2.2.2.2 s m args below meth c T' locs' k' n' ∧ k' ≤ M.2.2.2.2.cells ∧ n' ≤ M.2.2.2.2.slots ∧ Rep C.2.1 C.2.2.1 T'.heap G' ∧ Fr C.2.2.1 locs' ∧ Q r G' ∧
      (M.2.2.2.1 = none → r = none) ∧
      ∀ fs : List Frame, (∀ (f : JFrame) (acts : List Action), f.method = m → f.locked = none → f.entered = [] → (doReturn e (T'.setTop f) acts r).1 = T'.setFrames fs) → Steps p.tables e below (T0.setTop (mkF m pc L S)) (T'.setFrames fs) := by
  obtain ⟨f1, G', f2, f3⟩ := hQ
  obtain ⟨T', locs', k', n', r, G'', g1, g2, g3, g4, g5, g6, g7, g8⟩ := h v G' f3 hw p e s m args below meth c T _ L hx hby hml hret hnm hown hZ hf hsz X f2 (Fr.app hF f1)
  exact ⟨T', locs', k', n', r, G'', g1, g2, g3, g4, g5, g6, g7, fun fs hr => st _ (g8 fs hr)⟩
theorem Runs.callS {QN : Option Value → AH → Prop} (d : DAt M pc (.invokestatic idx) 3 q) (wl : Jvm.Cond.methodLink M.1.cls idx N.1 ∈ tables_1) (wt : Jvm.Cond.static N.1 ∈ tables_1) (wc : code_w N) (ar : arity N as.length) (hr0 : room_ok M N W) (hfull : full_ok M k n) (hS : S = as.reverse ++ S') (hW : (S'.map fun v => v.category).sum = W)
    (hN : Pays C N as G QN) (h : ∀ v G', QN v G' → Runs C M k n q P (v.toList ++ S') G' Q) : Runs C M k n pc P S G Q := by
  intro hw p e s m args below meth c T locs L hx hby hml hret hnm hown hZ hf hsz X hR hF
  have hq := d.2
  subst hq hS
  have hr := hr0.al hfull
  obtain ⟨_, _, ⟨T1, L1, k1, n1⟩, -, X1, ⟨Lc, hQ, l1, y1, z1⟩, st⟩ := Jvm.LawKit.callS X hx (y := N.1) hown (mvT hZ (hw _ wl)) (mvT hZ (hw _ wt)) (mvT hZ (hw _ wc.2.1)) (mvT hZ (hw _ wc.1)) wc.2.2 (backOf (W := W) (Q := fun v h L => Fr C.2.2.1 L ∧ ∃ G', Rep C.2.1 C.2.2.1 h G' ∧ QN v G') (hN hw T.heap hR []) hZ (hw _ wc.1) (hw _ wc.2.1) hr.1 hr.2.1) (g := mkF m pc L (as.reverse ++ S')) rfl (by rw [hml]; exact hsz) (argsL := as) (rest := S') (ar.len rfl) rfl (by show 2 * 0 + _ ≤ _; omega) (hb hby d.1) (fun _ _ => ⟨rfl, rfl, hr.2.2.1, hr.2.2.2⟩)
  dsimp only [Pt.U, Pt.locs, Pt.cells, Pt.slots] at X1 l1 y1 z1 st hQ
  subst l1 y1 z1
  exact after_call hw hx hby hml hret hnm hown hZ hf hsz hF X1 hQ (by rw [hr0.2.2.1, hr0.2.2.2]; exact h) (fun t u => st t u)
theorem Runs.callV {QN : Option Value → AH → Prop} (d : DAt M pc (.invokevirtual idx) 3 q) (wl : Jvm.Cond.methodLink M.1.cls idx N.1 ∈ tables_1) (wd : Jvm.Cond.declares N.1 ∈ tables_1) (wi : Jvm.Cond.instanceMethod N.1 ∈ tables_1) (ws : Jvm.Cond.selects K.1 N.1 N.1 ∈ tables_1) (wc : code_w N) (ar : arity N as.length) (hr0 : room_ok M N W) (hfull : full_ok M k n) (hS : S = as.reverse ++ .ref a :: S') (hW : (S'.map fun v => v.category).sum = W)
    (hN : Pays C N (.ref a :: as) (top, (a, qq, ob) :: H) QN) (h : ∀ v G', QN v G' → Runs C M k n q P (v.toList ++ S') G' Q) : Runs C M k n pc P S (top, (a, qq, ob) :: H) Q := by
  intro hw p e s m args below meth c T locs L hx hby hml hret hnm hown hZ hf hsz X hR hF
  have hq := d.2
  subst hq hS
  have hr := hr0.al hfull
  obtain ⟨cB, kB, u1, -, u3⟩ := isOf hZ rfl hR.objs.2.2.1
  obtain ⟨_, _, ⟨T1, L1, k1, n1⟩, -, X1, ⟨Lc, hQ, l1, y1, z1⟩, st⟩ := X.virtualBack hx (y := N.1) (z := N.1) hown (mvT hZ (hw _ wl)) (mvT hZ (hw _ wd)) (notFace_of_selects (args := #[]) (mvT hZ (hw _ ws))) (mvT hZ (hw _ ws)) (mvT hZ (hw _ wi)) wc.2.2 (backOf (W := W) (Q := fun v h L => Fr C.2.2.1 L ∧ ∃ G', Rep C.2.1 C.2.2.1 h G' ∧ QN v G') (hN hw T.heap hR []) hZ (hw _ wc.1) (hw _ wc.2.1) hr.1 hr.2.1) u1 u3 (g := mkF m pc L (as.reverse ++ .ref a :: S')) rfl (by rw [hml]; exact hsz) (Steps.refl _) (argsL := as) (rest := S') (ar.len rfl) rfl (by show 2 * 0 + _ ≤ _; omega) (hb hby d.1) (fun _ _ => ⟨rfl, rfl, hr.2.2.1, hr.2.2.2⟩)
  dsimp only [Pt.U, Pt.locs, Pt.cells, Pt.slots] at X1 l1 y1 z1 st hQ
  subst l1 y1 z1
  exact after_call hw hx hby hml hret hnm hown hZ hf hsz hF X1 hQ (by rw [hr0.2.2.1, hr0.2.2.2]; exact h) (fun t u => st.trans u)
theorem Runs.callP {QN : Option Value → AH → Prop} (d : DAt M pc (.invokevirtual idx) 3 q) (wl : Jvm.Cond.methodLink M.1.cls idx N.1 ∈ tables_1) (wi : Jvm.Cond.instanceMethod N.1 ∈ tables_1) (wp : Jvm.Cond.privateMethod N.1 ∈ tables_1) (wK : N.1.cls = K.1) (wc : code_w N) (ar : arity N as.length) (hr0 : room_ok M N W) (hfull : full_ok M k n) (hS : S = as.reverse ++ .ref a :: S') (hW : (S'.map fun v => v.category).sum = W)
    (hN : Pays C N (.ref a :: as) (top, (a, qq, ob) :: H) QN) (h : ∀ v G', QN v G' → Runs C M k n q P (v.toList ++ S') G' Q) : Runs C M k n pc P S (top, (a, qq, ob) :: H) Q := by
  intro hw p e s m args below meth c T locs L hx hby hml hret hnm hown hZ hf hsz X hR hF
  have hq := d.2
  subst hq hS
  have hr := hr0.al hfull
  obtain ⟨cl, u1, u2⟩ := hR.objs.2.2.1.cell
  have hpr : s.PrivateAt N.1 := Cond.privateMethod_at (mvP hZ (hw _ wp) (args := #[]))
  obtain ⟨c2, k2, i1, i2, i3, i4, -⟩ := Cond.instantiable_spec (mvT (args := args) hZ (hw _ kI))
  have hsel : (Jvm.Cond.selects N.1.cls N.1 N.1).before args s = true := Stand.selects_self_of_private (by rw [wK]; exact i1) i2 (by simp at i4; exact i4.1) hpr (mvT hZ (hw _ wi)) wc.2.2
  obtain ⟨_, _, ⟨T1, L1, k1, n1⟩, -, X1, ⟨Lc, hQ, l1, y1, z1⟩, st⟩ := X.privateBack hx (y := N.1) hown (mvT hZ (hw _ wl)) (mvT hZ (hw _ wi)) hsel hpr (mvT hZ (hw _ wc.1)) wc.2.2 (backOf (W := W) (Q := fun v h L => Fr C.2.2.1 L ∧ ∃ G', Rep C.2.1 C.2.2.1 h G' ∧ QN v G') (hN hw T.heap hR []) hZ (hw _ wc.1) (hw _ wc.2.1) hr.1 hr.2.1) (g := mkF m pc L (as.reverse ++ .ref a :: S')) rfl (by rw [hml]; exact hsz) (Steps.refl _) (a := a) u1 u2 (argsL := as) (rest := S') (ar.len rfl) rfl (by show 2 * 0 + _ ≤ _; omega) (hb hby d.1) (fun _ _ => ⟨rfl, rfl, hr.2.2.1, hr.2.2.2⟩)
  dsimp only [Pt.U, Pt.locs, Pt.cells, Pt.slots] at X1 l1 y1 z1 st hQ
  subst l1 y1 z1
  exact after_call hw hx hby hml hret hnm hown hZ hf hsz hF X1 hQ (by rw [hr0.2.2.1, hr0.2.2.2]; exact h) (fun t u => st.trans u)
theorem Runs.callI {QN : Option Value → AH → Prop} (d : DAt M pc (.invokespecial idx) 3 q) (hi : N.1.name = "<init>") (hn : N.2.2.2.1 = none) (wl : Jvm.Cond.methodLink M.1.cls idx N.1 ∈ tables_1) (wi : Jvm.Cond.instanceMethod N.1 ∈ tables_1) (wc : code_w N) (ar : arity N as.length) (hr : room_al M N W k n) (hS : S = as.reverse ++ .ref a :: S') (hW : (S'.map fun v => v.category).sum = W) {k' n' : Nat} (hk' : k + N.2.2.2.2.cells = k') (hn' : n + N.2.2.2.2.slots = n')
    (hN : Pays C N (.ref a :: as) G QN) (h : ∀ v G', QN v G' → Runs C M k' n' q P (v.toList ++ S') G' Q) : Runs C M k n pc P S G Q := by
  intro hw p e s m args below meth c T locs L hx hby hml hret hnm hown hZ hf hsz X hR hF
  have hq := d.2
  subst hq hS hk' hn'
  have wc1 := hw _ wc.1
  obtain ⟨_, _, ⟨T1, L1, k1, n1⟩, -, X1, ⟨Lc, hQ, l1, y1, z1⟩, st⟩ := X.specialBack hx (y := N.1) hi hown (mvT hZ (hw _ wl)) (mvT hZ (hw _ wi)) (bytes := N.2.1) (maxL := N.2.2.1) (by have := mvT (args := args) hZ wc1; rw [hn] at this; exact this) wc.2.2 (backOf (W := W) (Q := fun v h L => Fr C.2.2.1 L ∧ ∃ G', Rep C.2.1 C.2.2.1 h G' ∧ QN v G') (hN hw T.heap hR []) hZ wc1 (hw _ wc.2.1) hr.1 hr.2.1) (g := mkF m pc L (as.reverse ++ .ref a :: S')) rfl (by rw [hml]; exact hsz) (Steps.refl _) (a := a) (argsL := as) (rest := S') (ar.len rfl) rfl (by show 2 * 0 + _ ≤ _; omega) (hb hby d.1) (fun _ _ => ⟨rfl, rfl, hr.2.2.1, hr.2.2.2⟩)
  dsimp only [Pt.U, Pt.locs, Pt.cells, Pt.slots] at X1 l1 y1 z1 st hQ
  subst l1 y1 z1
  exact after_call hw hx hby hml hret hnm hown hZ hf hsz hF X1 hQ h (fun t u => st.trans u)
/-- the plain form of a contract: one answer, one heap -/
abbrev Ans (r : Option Value) (G1 : AH) : Option Value → AH → Prop := fun v G' => v = r ∧ G' = G1
theorem ans1 {x : Value} {k n : Nat} (h : Runs C M k n pc P (x :: S) G1 Q) : ∀ v G', Ans (some x) G1 v G' → Runs C M k n pc P (v.toList ++ S) G' Q := by
  rintro v G' ⟨rfl, rfl⟩; exact h
theorem ans0 {k n : Nat} (h : Runs C M k n pc P S G1 Q) : ∀ v G', Ans none G1 v G' → Runs C M k n pc P (v.toList ++ S) G' Q := by
  rintro v G' ⟨rfl, rfl⟩; exact h
end Calls
theorem pnK : plainName "SaturProver" = true := by first | (simp [plainName, overriddenIn]; done) | decide +kernel
theorem pnL : plainName "SaturProverL1" = true := by first | (simp [plainName, overriddenIn]; done) | decide +kernel
theorem w0 : (Jvm.Cond.classLink "SaturProverL1" (7 : Nat) "SaturProver") ∈ tables_1 := mem1 0 rfl
theorem w3 : (Jvm.Cond.methodLink "SaturProverL1" (9 : Nat) ({ cls := "SaturProver", name := "<init>", desc := "(I)V" } : Jvm.MethodName)) ∈ tables_1 := mem1 3 rfl
theorem w4 : (Jvm.Cond.instanceMethod ({ cls := "SaturProver", name := "<init>", desc := "(I)V" } : Jvm.MethodName)) ∈ tables_1 := mem1 4 rfl
theorem w6 : (Jvm.Cond.methodLink "SaturProver" (1 : Nat) ({ cls := "java/lang/Object", name := "<init>", desc := "()V" } : Jvm.MethodName)) ∈ tables_1 := mem1 6 rfl
theorem w7 : (Jvm.Cond.instanceMethod ({ cls := "java/lang/Object", name := "<init>", desc := "()V" } : Jvm.MethodName)) ∈ tables_1 := mem1 7 rfl
theorem w8 : (Jvm.Cond.code ({ cls := "java/lang/Object", name := "<init>", desc := "()V" } : Jvm.MethodName) object_method_1_code (1 : Nat) (Option.none : Option Jvm.ClassFile.FieldType)) ∈ tables_1 := mem1 8 rfl
theorem w9 : (Jvm.Cond.arrayClass Jvm.ClassFile.FieldType.int) ∈ tables_1 := mem1 9 rfl
theorem w10 : (Jvm.Cond.fieldLink "SaturProver" (7 : Nat) "SaturProver" "toks" "[I") ∈ tables_1 := mem1 10 rfl
theorem w12 : (Jvm.Cond.fieldLink "SaturProver" (13 : Nat) "SaturProver" "saved" "[I") ∈ tables_1 := mem1 12 rfl
theorem w14 : (Jvm.Cond.arrayClass Jvm.ClassFile.FieldType.long) ∈ tables_1 := mem1 14 rfl
theorem w15 : (Jvm.Cond.fieldLink "SaturProver" (16 : Nat) "SaturProver" "stk" "[J") ∈ tables_1 := mem1 15 rfl
theorem w17 : (Jvm.Cond.fieldLink "SaturProver" (20 : Nat) "SaturProver" "tabF" "[J") ∈ tables_1 := mem1 17 rfl
theorem w19 : (Jvm.Cond.fieldLink "SaturProver" (23 : Nat) "SaturProver" "tabS" "[J") ∈ tables_1 := mem1 19 rfl
theorem w21 : (Jvm.Cond.fieldLink "SaturProver" (26 : Nat) "SaturProver" "work" "[J") ∈ tables_1 := mem1 21 rfl
theorem w23 : (Jvm.Cond.fieldLink "SaturProver" (29 : Nat) "SaturProver" "cap" "I") ∈ tables_1 := mem1 23 rfl
theorem w24 : (Jvm.Cond.lays "SaturProver" "SaturProver" "cap" "I") ∈ tables_1 := mem1 24 rfl
theorem w25 : (Jvm.Cond.fieldLink "SaturProver" (33 : Nat) "SaturProver" "n" "I") ∈ tables_1 := mem1 25 rfl
theorem w26 : (Jvm.Cond.lays "SaturProver" "SaturProver" "n" "I") ∈ tables_1 := mem1 26 rfl
theorem w27 : (Jvm.Cond.fieldLink "SaturProver" (36 : Nat) "SaturProver" "dep" "I") ∈ tables_1 := mem1 27 rfl
theorem w28 : (Jvm.Cond.lays "SaturProver" "SaturProver" "dep" "I") ∈ tables_1 := mem1 28 rfl
theorem w29 : (Jvm.Cond.fieldLink "SaturProver" (39 : Nat) "SaturProver" "sn" "I") ∈ tables_1 := mem1 29 rfl
theorem w30 : (Jvm.Cond.lays "SaturProver" "SaturProver" "sn" "I") ∈ tables_1 := mem1 30 rfl
theorem w31 : (Jvm.Cond.fieldLink "SaturProver" (42 : Nat) "SaturProver" "hasSaved" "Z") ∈ tables_1 := mem1 31 rfl
theorem w32 : (Jvm.Cond.lays "SaturProver" "SaturProver" "hasSaved" "Z") ∈ tables_1 := mem1 32 rfl
theorem w33 : (Jvm.Cond.fieldLink "SaturProver" (46 : Nat) "SaturProver" "fValid" "Z") ∈ tables_1 := mem1 33 rfl
theorem w34 : (Jvm.Cond.lays "SaturProver" "SaturProver" "fValid" "Z") ∈ tables_1 := mem1 34 rfl
theorem w35 : (Jvm.Cond.methodLink "SaturProver" (49 : Nat) ({ cls := "SaturProver", name := "resetResult", desc := "()V" } : Jvm.MethodName)) ∈ tables_1 := mem1 35 rfl
theorem w36 : (Jvm.Cond.instanceMethod ({ cls := "SaturProver", name := "resetResult", desc := "()V" } : Jvm.MethodName)) ∈ tables_1 := mem1 36 rfl
theorem w37 : (Jvm.Cond.privateMethod ({ cls := "SaturProver", name := "resetResult", desc := "()V" } : Jvm.MethodName)) ∈ tables_1 := mem1 37 rfl
theorem w39 : (Jvm.Cond.fieldLink "SaturProver" (89 : Nat) "SaturProver" "res" "I") ∈ tables_1 := mem1 39 rfl
theorem w40 : (Jvm.Cond.lays "SaturProver" "SaturProver" "res" "I") ∈ tables_1 := mem1 40 rfl
theorem w41 : (Jvm.Cond.fieldLink "SaturProver" (92 : Nat) "SaturProver" "wit" "I") ∈ tables_1 := mem1 41 rfl
theorem w42 : (Jvm.Cond.lays "SaturProver" "SaturProver" "wit" "I") ∈ tables_1 := mem1 42 rfl
theorem w43 : (Jvm.Cond.methodLink "SaturProverL1" (12 : Nat) ({ cls := "SaturProver", name := "pushToken", desc := "(I)I" } : Jvm.MethodName)) ∈ tables_1 := mem1 43 rfl
theorem w44 : (Jvm.Cond.declares ({ cls := "SaturProver", name := "pushToken", desc := "(I)I" } : Jvm.MethodName)) ∈ tables_1 := mem1 44 rfl
theorem w45 : (Jvm.Cond.instanceMethod ({ cls := "SaturProver", name := "pushToken", desc := "(I)I" } : Jvm.MethodName)) ∈ tables_1 := mem1 45 rfl
theorem w46 : (Jvm.Cond.selects "SaturProver" ({ cls := "SaturProver", name := "pushToken", desc := "(I)I" } : Jvm.MethodName) ({ cls := "SaturProver", name := "pushToken", desc := "(I)I" } : Jvm.MethodName)) ∈ tables_1 := mem1 46 rfl
theorem w48 : (Jvm.Cond.methodLink "SaturProver" (52 : Nat) ({ cls := "SaturProver", name := "arity", desc := "(I)I" } : Jvm.MethodName)) ∈ tables_1 := mem1 48 rfl
theorem w49 : (Jvm.Cond.instanceMethod ({ cls := "SaturProver", name := "arity", desc := "(I)I" } : Jvm.MethodName)) ∈ tables_1 := mem1 49 rfl
theorem w50 : (Jvm.Cond.privateMethod ({ cls := "SaturProver", name := "arity", desc := "(I)I" } : Jvm.MethodName)) ∈ tables_1 := mem1 50 rfl
theorem w52 : (Jvm.Cond.methodLink "SaturProverL1" (16 : Nat) ({ cls := "SaturProver", name := "length", desc := "()I" } : Jvm.MethodName)) ∈ tables_1 := mem1 52 rfl
theorem w53 : (Jvm.Cond.declares ({ cls := "SaturProver", name := "length", desc := "()I" } : Jvm.MethodName)) ∈ tables_1 := mem1 53 rfl
theorem w54 : (Jvm.Cond.instanceMethod ({ cls := "SaturProver", name := "length", desc := "()I" } : Jvm.MethodName)) ∈ tables_1 := mem1 54 rfl
theorem w55 : (Jvm.Cond.selects "SaturProver" ({ cls := "SaturProver", name := "length", desc := "()I" } : Jvm.MethodName) ({ cls := "SaturProver", name := "length", desc := "()I" } : Jvm.MethodName)) ∈ tables_1 := mem1 55 rfl
theorem w57 : (Jvm.Cond.methodLink "SaturProverL1" (20 : Nat) ({ cls := "SaturProver", name := "depth", desc := "()I" } : Jvm.MethodName)) ∈ tables_1 := mem1 57 rfl
theorem w58 : (Jvm.Cond.declares ({ cls := "SaturProver", name := "depth", desc := "()I" } : Jvm.MethodName)) ∈ tables_1 := mem1 58 rfl
theorem w59 : (Jvm.Cond.instanceMethod ({ cls := "SaturProver", name := "depth", desc := "()I" } : Jvm.MethodName)) ∈ tables_1 := mem1 59 rfl
theorem w60 : (Jvm.Cond.selects "SaturProver" ({ cls := "SaturProver", name := "depth", desc := "()I" } : Jvm.MethodName) ({ cls := "SaturProver", name := "depth", desc := "()I" } : Jvm.MethodName)) ∈ tables_1 := mem1 60 rfl
theorem w62 : (Jvm.Cond.methodLink "SaturProverL1" (23 : Nat) ({ cls := "SaturProver", name := "evaluate", desc := "(I)I" } : Jvm.MethodName)) ∈ tables_1 := mem1 62 rfl
theorem w63 : (Jvm.Cond.declares ({ cls := "SaturProver", name := "evaluate", desc := "(I)I" } : Jvm.MethodName)) ∈ tables_1 := mem1 63 rfl
theorem w64 : (Jvm.Cond.instanceMethod ({ cls := "SaturProver", name := "evaluate", desc := "(I)I" } : Jvm.MethodName)) ∈ tables_1 := mem1 64 rfl
theorem w65 : (Jvm.Cond.selects "SaturProver" ({ cls := "SaturProver", name := "evaluate", desc := "(I)I" } : Jvm.MethodName) ({ cls := "SaturProver", name := "evaluate", desc := "(I)I" } : Jvm.MethodName)) ∈ tables_1 := mem1 65 rfl
theorem w67 : (Jvm.Cond.methodLink "SaturProver" (56 : Nat) ({ cls := "SaturProver", name := "completeF", desc := "()Z" } : Jvm.MethodName)) ∈ tables_1 := mem1 67 rfl
theorem w68 : (Jvm.Cond.instanceMethod ({ cls := "SaturProver", name := "completeF", desc := "()Z" } : Jvm.MethodName)) ∈ tables_1 := mem1 68 rfl
theorem w69 : (Jvm.Cond.privateMethod ({ cls := "SaturProver", name := "completeF", desc := "()Z" } : Jvm.MethodName)) ∈ tables_1 := mem1 69 rfl
theorem w71 : (Jvm.Cond.methodLink "SaturProver" (63 : Nat) ({ cls := "SaturProver", name := "ensureTableF", desc := "()V" } : Jvm.MethodName)) ∈ tables_1 := mem1 71 rfl
theorem w72 : (Jvm.Cond.instanceMethod ({ cls := "SaturProver", name := "ensureTableF", desc := "()V" } : Jvm.MethodName)) ∈ tables_1 := mem1 72 rfl
theorem w73 : (Jvm.Cond.privateMethod ({ cls := "SaturProver", name := "ensureTableF", desc := "()V" } : Jvm.MethodName)) ∈ tables_1 := mem1 73 rfl
theorem w75 : (Jvm.Cond.methodLink "SaturProver" (95 : Nat) ({ cls := "SaturProver", name := "step", desc := "(II)I" } : Jvm.MethodName)) ∈ tables_1 := mem1 75 rfl
theorem w76 : (Jvm.Cond.instanceMethod ({ cls := "SaturProver", name := "step", desc := "(II)I" } : Jvm.MethodName)) ∈ tables_1 := mem1 76 rfl
theorem w77 : (Jvm.Cond.privateMethod ({ cls := "SaturProver", name := "step", desc := "(II)I" } : Jvm.MethodName)) ∈ tables_1 := mem1 77 rfl
theorem w79 : (Jvm.Cond.methodLink "SaturProver" (103 : Nat) ({ cls := "SaturProver", name := "pushLeaf", desc := "(II)V" } : Jvm.MethodName)) ∈ tables_1 := mem1 79 rfl
theorem w80 : (Jvm.Cond.instanceMethod ({ cls := "SaturProver", name := "pushLeaf", desc := "(II)V" } : Jvm.MethodName)) ∈ tables_1 := mem1 80 rfl
theorem w81 : (Jvm.Cond.privateMethod ({ cls := "SaturProver", name := "pushLeaf", desc := "(II)V" } : Jvm.MethodName)) ∈ tables_1 := mem1 81 rfl
theorem w83 : (Jvm.Cond.methodLink "SaturProver" (112 : Nat) ({ cls := "SaturProver", name := "leafWord", desc := "(II)J" } : Jvm.MethodName)) ∈ tables_1 := mem1 83 rfl
theorem w84 : (Jvm.Cond.instanceMethod ({ cls := "SaturProver", name := "leafWord", desc := "(II)J" } : Jvm.MethodName)) ∈ tables_1 := mem1 84 rfl
theorem w85 : (Jvm.Cond.privateMethod ({ cls := "SaturProver", name := "leafWord", desc := "(II)J" } : Jvm.MethodName)) ∈ tables_1 := mem1 85 rfl
theorem w87 : (Jvm.Cond.methodLink "SaturProver" (122 : Nat) ({ cls := "SaturProver", name := "varWord", desc := "(II)J" } : Jvm.MethodName)) ∈ tables_1 := mem1 87 rfl
theorem w88 : (Jvm.Cond.instanceMethod ({ cls := "SaturProver", name := "varWord", desc := "(II)J" } : Jvm.MethodName)) ∈ tables_1 := mem1 88 rfl
theorem w89 : (Jvm.Cond.privateMethod ({ cls := "SaturProver", name := "varWord", desc := "(II)J" } : Jvm.MethodName)) ∈ tables_1 := mem1 89 rfl
theorem w91 : (Jvm.Cond.constantLong "SaturProver" (131 : Nat) (-71777214294589696 : Int64)) ∈ tables_1 := mem1 91 rfl
theorem w92 : (Jvm.Cond.methodLink "SaturProver" (99 : Nat) ({ cls := "SaturProver", name := "storeTopIntoF", desc := "(I)V" } : Jvm.MethodName)) ∈ tables_1 := mem1 92 rfl
theorem w93 : (Jvm.Cond.instanceMethod ({ cls := "SaturProver", name := "storeTopIntoF", desc := "(I)V" } : Jvm.MethodName)) ∈ tables_1 := mem1 93 rfl
theorem w94 : (Jvm.Cond.privateMethod ({ cls := "SaturProver", name := "storeTopIntoF", desc := "(I)V" } : Jvm.MethodName)) ∈ tables_1 := mem1 94 rfl
theorem w96 : (Jvm.Cond.methodLink "SaturProver" (69 : Nat) ({ cls := "SaturProver", name := "bitOfF", desc := "(I)I" } : Jvm.MethodName)) ∈ tables_1 := mem1 96 rfl
theorem w97 : (Jvm.Cond.instanceMethod ({ cls := "SaturProver", name := "bitOfF", desc := "(I)I" } : Jvm.MethodName)) ∈ tables_1 := mem1 97 rfl
theorem w98 : (Jvm.Cond.privateMethod ({ cls := "SaturProver", name := "bitOfF", desc := "(I)I" } : Jvm.MethodName)) ∈ tables_1 := mem1 98 rfl
theorem w100 : (Jvm.Cond.methodLink "SaturProverL1" (26 : Nat) ({ cls := "SaturProver", name := "lastResult", desc := "()I" } : Jvm.MethodName)) ∈ tables_1 := mem1 100 rfl
theorem w101 : (Jvm.Cond.declares ({ cls := "SaturProver", name := "lastResult", desc := "()I" } : Jvm.MethodName)) ∈ tables_1 := mem1 101 rfl
theorem w102 : (Jvm.Cond.instanceMethod ({ cls := "SaturProver", name := "lastResult", desc := "()I" } : Jvm.MethodName)) ∈ tables_1 := mem1 102 rfl
theorem w103 : (Jvm.Cond.selects "SaturProver" ({ cls := "SaturProver", name := "lastResult", desc := "()I" } : Jvm.MethodName) ({ cls := "SaturProver", name := "lastResult", desc := "()I" } : Jvm.MethodName)) ∈ tables_1 := mem1 103 rfl
theorem w105 : (Jvm.Cond.methodLink "SaturProverL1" (29 : Nat) ({ cls := "SaturProver", name := "witness", desc := "()I" } : Jvm.MethodName)) ∈ tables_1 := mem1 105 rfl
theorem w106 : (Jvm.Cond.declares ({ cls := "SaturProver", name := "witness", desc := "()I" } : Jvm.MethodName)) ∈ tables_1 := mem1 106 rfl
theorem w107 : (Jvm.Cond.instanceMethod ({ cls := "SaturProver", name := "witness", desc := "()I" } : Jvm.MethodName)) ∈ tables_1 := mem1 107 rfl
theorem w108 : (Jvm.Cond.selects "SaturProver" ({ cls := "SaturProver", name := "witness", desc := "()I" } : Jvm.MethodName) ({ cls := "SaturProver", name := "witness", desc := "()I" } : Jvm.MethodName)) ∈ tables_1 := mem1 108 rfl
theorem w110 : (Jvm.Cond.constantLong "SaturProver" (135 : Nat) (-4294967296 : Int64)) ∈ tables_1 := mem1 110 rfl
theorem w111 : (Jvm.Cond.constantLong "SaturProver" (127 : Nat) (-3689348814741910324 : Int64)) ∈ tables_1 := mem1 111 rfl
theorem w112 : (Jvm.Cond.constantLong "SaturProver" (129 : Nat) (-1085102592571150096 : Int64)) ∈ tables_1 := mem1 112 rfl
theorem w113 : (Jvm.Cond.constantLong "SaturProver" (116 : Nat) (-1 : Int64)) ∈ tables_1 := mem1 113 rfl
theorem w114 : (Jvm.Cond.constantLong "SaturProver" (125 : Nat) (-6148914691236517206 : Int64)) ∈ tables_1 := mem1 114 rfl
theorem w115 : (Jvm.Cond.constantLong "SaturProver" (133 : Nat) (-281470681808896 : Int64)) ∈ tables_1 := mem1 115 rfl
theorem fS_0 : K.2.1[0]? = some ("cap", "I") := rfl
theorem fS_1 : K.2.1[1]? = some ("n", "I") := rfl
theorem fS_2 : K.2.1[2]? = some ("dep", "I") := rfl
theorem fS_3 : K.2.1[3]? = some ("sn", "I") := rfl
theorem fS_4 : K.2.1[4]? = some ("hasSaved", "Z") := rfl
theorem fS_5 : K.2.1[5]? = some ("res", "I") := rfl
theorem fS_6 : K.2.1[6]? = some ("wit", "I") := rfl
theorem fS_7 : K.2.1[7]? = some ("fValid", "Z") := rfl
theorem fA_0 : K.2.2[0]? = some ("toks", .int, (32 : Int32)) := rfl
theorem fA_1 : K.2.2[1]? = some ("saved", .int, (32 : Int32)) := rfl
theorem fA_2 : K.2.2[2]? = some ("stk", .long, (128 : Int32)) := rfl
theorem fA_3 : K.2.2[3]? = some ("tabF", .long, (4 : Int32)) := rfl
theorem fA_4 : K.2.2[4]? = some ("tabS", .long, (4 : Int32)) := rfl
theorem fA_5 : K.2.2[5]? = some ("work", .long, (4 : Int32)) := rfl
theorem cb_m5 : (Int8.ofInt (-5)).toInt32 = (-5 : Int32) := by decide
theorem cb_m3 : (Int8.ofInt (-3)).toInt32 = (-3 : Int32) := by decide
theorem cb_m2 : (Int8.ofInt (-2)).toInt32 = (-2 : Int32) := by decide
theorem cb_6 : (Int8.ofInt 6).toInt32 = (6 : Int32) := by decide
theorem cb_8 : (Int8.ofInt 8).toInt32 = (8 : Int32) := by decide
theorem cb_9 : (Int8.ofInt 9).toInt32 = (9 : Int32) := by decide
theorem cb_10 : (Int8.ofInt 10).toInt32 = (10 : Int32) := by decide
theorem cb_15 : (Int8.ofInt 15).toInt32 = (15 : Int32) := by decide
theorem cb_32 : (Int8.ofInt 32).toInt32 = (32 : Int32) := by decide
theorem cb_63 : (Int8.ofInt 63).toInt32 = (63 : Int32) := by decide
theorem ci_m1 : Int32.ofInt (-1) = (-1 : Int32) := by decide
theorem ci_0 : Int32.ofInt 0 = (0 : Int32) := by decide
theorem ci_1 : Int32.ofInt 1 = (1 : Int32) := by decide
theorem ci_2 : Int32.ofInt 2 = (2 : Int32) := by decide
theorem ci_3 : Int32.ofInt 3 = (3 : Int32) := by decide
theorem ci_4 : Int32.ofInt 4 = (4 : Int32) := by decide
theorem cl_0 : Int64.ofNat (0 : Fin 2) = (0 : Int64) := by decide
theorem cl_1 : Int64.ofNat (1 : Fin 2) = (1 : Int64) := by decide
theorem cs_128 : (Int16.ofInt 128).toInt32 = (128 : Int32) := by decide
theorem cs_255 : (Int16.ofInt 255).toInt32 = (255 : Int32) := by decide
def B2 : Bdy := ((⟨"SaturProver", "resetResult", "()V"⟩ : MethodName), prog_1_method_19_code, 1, none, ({ frames := 0, cells := 0, slots := 0, locals := 0 } : Room))
theorem d2_0 : DAt B2 0 (.aload_n 0) 1 1 := ⟨by decide +kernel, rfl⟩
theorem d2_1 : DAt B2 1 (.iconst 0) 1 2 := ⟨by decide +kernel, rfl⟩
theorem d2_2 : DAt B2 2 (.putfield 89) 3 5 := ⟨by decide +kernel, rfl⟩
theorem d2_5 : DAt B2 5 (.aload_n 0) 1 6 := ⟨by decide +kernel, rfl⟩
theorem d2_6 : DAt B2 6 (.iconst (-1)) 1 7 := ⟨by decide +kernel, rfl⟩
theorem d2_7 : DAt B2 7 (.putfield 92) 3 10 := ⟨by decide +kernel, rfl⟩
theorem d2_10 : DAt B2 10 (.return_) 1 11 := ⟨by decide +kernel, rfl⟩
def B1 : Bdy := ((⟨"SaturProver", "<init>", "(I)V"⟩ : MethodName), prog_1_method_1_code, 3, none, ({ frames := 1, cells := 6, slots := 204, locals := 12 } : Room))
theorem d1_0 : DAt B1 0 (.aload_n 0) 1 1 := ⟨by decide +kernel, rfl⟩
theorem d1_1 : DAt B1 1 (.invokespecial 1) 3 4 := ⟨by decide +kernel, rfl⟩
theorem d1_4 : DAt B1 4 (.aload_n 0) 1 5 := ⟨by decide +kernel, rfl⟩
theorem d1_5 : DAt B1 5 (.bipush 32) 2 7 := ⟨by decide +kernel, rfl⟩
theorem d1_7 : DAt B1 7 (.newarray .int) 2 9 := ⟨by decide +kernel, rfl⟩
theorem d1_9 : DAt B1 9 (.putfield 7) 3 12 := ⟨by decide +kernel, rfl⟩
theorem d1_12 : DAt B1 12 (.aload_n 0) 1 13 := ⟨by decide +kernel, rfl⟩
theorem d1_13 : DAt B1 13 (.bipush 32) 2 15 := ⟨by decide +kernel, rfl⟩
theorem d1_15 : DAt B1 15 (.newarray .int) 2 17 := ⟨by decide +kernel, rfl⟩
theorem d1_17 : DAt B1 17 (.putfield 13) 3 20 := ⟨by decide +kernel, rfl⟩
theorem d1_20 : DAt B1 20 (.aload_n 0) 1 21 := ⟨by decide +kernel, rfl⟩
theorem d1_21 : DAt B1 21 (.sipush 128) 3 24 := ⟨by decide +kernel, rfl⟩
theorem d1_24 : DAt B1 24 (.newarray .long) 2 26 := ⟨by decide +kernel, rfl⟩
theorem d1_26 : DAt B1 26 (.putfield 16) 3 29 := ⟨by decide +kernel, rfl⟩
theorem d1_29 : DAt B1 29 (.aload_n 0) 1 30 := ⟨by decide +kernel, rfl⟩
theorem d1_30 : DAt B1 30 (.iconst 4) 1 31 := ⟨by decide +kernel, rfl⟩
theorem d1_31 : DAt B1 31 (.newarray .long) 2 33 := ⟨by decide +kernel, rfl⟩
theorem d1_33 : DAt B1 33 (.putfield 20) 3 36 := ⟨by decide +kernel, rfl⟩
theorem d1_36 : DAt B1 36 (.aload_n 0) 1 37 := ⟨by decide +kernel, rfl⟩
theorem d1_37 : DAt B1 37 (.iconst 4) 1 38 := ⟨by decide +kernel, rfl⟩
theorem d1_38 : DAt B1 38 (.newarray .long) 2 40 := ⟨by decide +kernel, rfl⟩
theorem d1_40 : DAt B1 40 (.putfield 23) 3 43 := ⟨by decide +kernel, rfl⟩
theorem d1_43 : DAt B1 43 (.aload_n 0) 1 44 := ⟨by decide +kernel, rfl⟩
theorem d1_44 : DAt B1 44 (.iconst 4) 1 45 := ⟨by decide +kernel, rfl⟩
theorem d1_45 : DAt B1 45 (.newarray .long) 2 47 := ⟨by decide +kernel, rfl⟩
theorem d1_47 : DAt B1 47 (.putfield 26) 3 50 := ⟨by decide +kernel, rfl⟩
theorem d1_50 : DAt B1 50 (.iload_n 1) 1 51 := ⟨by decide +kernel, rfl⟩
theorem d1_51 : DAt B1 51 (.istore_n 2) 1 52 := ⟨by decide +kernel, rfl⟩
theorem d1_52 : DAt B1 52 (.iload_n 2) 1 53 := ⟨by decide +kernel, rfl⟩
theorem d1_53 : DAt B1 53 (.bipush 8) 2 55 := ⟨by decide +kernel, rfl⟩
theorem d1_55 : DAt B1 55 (.if_icmp .ge 6) 3 58 := ⟨by decide +kernel, rfl⟩
theorem d1_58 : DAt B1 58 (.bipush 8) 2 60 := ⟨by decide +kernel, rfl⟩
theorem d1_60 : DAt B1 60 (.istore_n 2) 1 61 := ⟨by decide +kernel, rfl⟩
theorem d1_61 : DAt B1 61 (.iload_n 2) 1 62 := ⟨by decide +kernel, rfl⟩
theorem d1_62 : DAt B1 62 (.bipush 32) 2 64 := ⟨by decide +kernel, rfl⟩
theorem d1_64 : DAt B1 64 (.if_icmp .le 6) 3 67 := ⟨by decide +kernel, rfl⟩
theorem d1_67 : DAt B1 67 (.bipush 32) 2 69 := ⟨by decide +kernel, rfl⟩
theorem d1_69 : DAt B1 69 (.istore_n 2) 1 70 := ⟨by decide +kernel, rfl⟩
theorem d1_70 : DAt B1 70 (.aload_n 0) 1 71 := ⟨by decide +kernel, rfl⟩
theorem d1_71 : DAt B1 71 (.iload_n 2) 1 72 := ⟨by decide +kernel, rfl⟩
theorem d1_72 : DAt B1 72 (.putfield 29) 3 75 := ⟨by decide +kernel, rfl⟩
theorem d1_75 : DAt B1 75 (.aload_n 0) 1 76 := ⟨by decide +kernel, rfl⟩
theorem d1_76 : DAt B1 76 (.iconst 0) 1 77 := ⟨by decide +kernel, rfl⟩
theorem d1_77 : DAt B1 77 (.putfield 33) 3 80 := ⟨by decide +kernel, rfl⟩
theorem d1_80 : DAt B1 80 (.aload_n 0) 1 81 := ⟨by decide +kernel, rfl⟩
theorem d1_81 : DAt B1 81 (.iconst 0) 1 82 := ⟨by decide +kernel, rfl⟩
theorem d1_82 : DAt B1 82 (.putfield 36) 3 85 := ⟨by decide +kernel, rfl⟩
theorem d1_85 : DAt B1 85 (.aload_n 0) 1 86 := ⟨by decide +kernel, rfl⟩
theorem d1_86 : DAt B1 86 (.iconst 0) 1 87 := ⟨by decide +kernel, rfl⟩
theorem d1_87 : DAt B1 87 (.putfield 39) 3 90 := ⟨by decide +kernel, rfl⟩
theorem d1_90 : DAt B1 90 (.aload_n 0) 1 91 := ⟨by decide +kernel, rfl⟩
theorem d1_91 : DAt B1 91 (.iconst 0) 1 92 := ⟨by decide +kernel, rfl⟩
theorem d1_92 : DAt B1 92 (.putfield 42) 3 95 := ⟨by decide +kernel, rfl⟩
theorem d1_95 : DAt B1 95 (.aload_n 0) 1 96 := ⟨by decide +kernel, rfl⟩
theorem d1_96 : DAt B1 96 (.iconst 0) 1 97 := ⟨by decide +kernel, rfl⟩
theorem d1_97 : DAt B1 97 (.putfield 46) 3 100 := ⟨by decide +kernel, rfl⟩
theorem d1_100 : DAt B1 100 (.aload_n 0) 1 101 := ⟨by decide +kernel, rfl⟩
theorem d1_101 : DAt B1 101 (.invokevirtual 49) 3 104 := ⟨by decide +kernel, rfl⟩
theorem d1_104 : DAt B1 104 (.return_) 1 105 := ⟨by decide +kernel, rfl⟩
def B4 : Bdy := ((⟨"SaturProver", "arity", "(I)I"⟩ : MethodName), prog_1_method_21_code, 2, (some .int), ({ frames := 0, cells := 0, slots := 0, locals := 0 } : Room))
theorem d4_0 : DAt B4 0 (.iload_n 1) 1 1 := ⟨by decide +kernel, rfl⟩
theorem d4_1 : DAt B4 1 (.bipush 9) 2 3 := ⟨by decide +kernel, rfl⟩
theorem d4_3 : DAt B4 3 (.if_icmp .gt 5) 3 6 := ⟨by decide +kernel, rfl⟩
theorem d4_6 : DAt B4 6 (.iconst 0) 1 7 := ⟨by decide +kernel, rfl⟩
theorem d4_7 : DAt B4 7 (.ireturn) 1 8 := ⟨by decide +kernel, rfl⟩
theorem d4_8 : DAt B4 8 (.iload_n 1) 1 9 := ⟨by decide +kernel, rfl⟩
theorem d4_9 : DAt B4 9 (.bipush 10) 2 11 := ⟨by decide +kernel, rfl⟩
theorem d4_11 : DAt B4 11 (.if_icmp .ne 5) 3 14 := ⟨by decide +kernel, rfl⟩
theorem d4_14 : DAt B4 14 (.iconst 1) 1 15 := ⟨by decide +kernel, rfl⟩
theorem d4_15 : DAt B4 15 (.ireturn) 1 16 := ⟨by decide +kernel, rfl⟩
theorem d4_16 : DAt B4 16 (.iconst 2) 1 17 := ⟨by decide +kernel, rfl⟩
theorem d4_17 : DAt B4 17 (.ireturn) 1 18 := ⟨by decide +kernel, rfl⟩
def B3 : Bdy := ((⟨"SaturProver", "pushToken", "(I)I"⟩ : MethodName), prog_1_method_2_code, 3, (some .int), ({ frames := 1, cells := 0, slots := 0, locals := 13 } : Room))
theorem d3_0 : DAt B3 0 (.iload_n 1) 1 1 := ⟨by decide +kernel, rfl⟩
theorem d3_1 : DAt B3 1 (.ifCond .lt 9) 3 4 := ⟨by decide +kernel, rfl⟩
theorem d3_4 : DAt B3 4 (.iload_n 1) 1 5 := ⟨by decide +kernel, rfl⟩
theorem d3_5 : DAt B3 5 (.bipush 15) 2 7 := ⟨by decide +kernel, rfl⟩
theorem d3_7 : DAt B3 7 (.if_icmp .le 5) 3 10 := ⟨by decide +kernel, rfl⟩
theorem d3_10 : DAt B3 10 (.iconst (-1)) 1 11 := ⟨by decide +kernel, rfl⟩
theorem d3_11 : DAt B3 11 (.ireturn) 1 12 := ⟨by decide +kernel, rfl⟩
theorem d3_12 : DAt B3 12 (.aload_n 0) 1 13 := ⟨by decide +kernel, rfl⟩
theorem d3_13 : DAt B3 13 (.getfield 33) 3 16 := ⟨by decide +kernel, rfl⟩
theorem d3_16 : DAt B3 16 (.aload_n 0) 1 17 := ⟨by decide +kernel, rfl⟩
theorem d3_17 : DAt B3 17 (.getfield 29) 3 20 := ⟨by decide +kernel, rfl⟩
theorem d3_20 : DAt B3 20 (.if_icmp .lt 6) 3 23 := ⟨by decide +kernel, rfl⟩
theorem d3_23 : DAt B3 23 (.bipush (-2)) 2 25 := ⟨by decide +kernel, rfl⟩
theorem d3_25 : DAt B3 25 (.ireturn) 1 26 := ⟨by decide +kernel, rfl⟩
theorem d3_26 : DAt B3 26 (.aload_n 0) 1 27 := ⟨by decide +kernel, rfl⟩
theorem d3_27 : DAt B3 27 (.iload_n 1) 1 28 := ⟨by decide +kernel, rfl⟩
theorem d3_28 : DAt B3 28 (.invokevirtual 52) 3 31 := ⟨by decide +kernel, rfl⟩
theorem d3_31 : DAt B3 31 (.istore_n 2) 1 32 := ⟨by decide +kernel, rfl⟩
theorem d3_32 : DAt B3 32 (.iload_n 2) 1 33 := ⟨by decide +kernel, rfl⟩
theorem d3_33 : DAt B3 33 (.aload_n 0) 1 34 := ⟨by decide +kernel, rfl⟩
theorem d3_34 : DAt B3 34 (.getfield 36) 3 37 := ⟨by decide +kernel, rfl⟩
theorem d3_37 : DAt B3 37 (.if_icmp .le 6) 3 40 := ⟨by decide +kernel, rfl⟩
theorem d3_40 : DAt B3 40 (.bipush (-3)) 2 42 := ⟨by decide +kernel, rfl⟩
theorem d3_42 : DAt B3 42 (.ireturn) 1 43 := ⟨by decide +kernel, rfl⟩
theorem d3_43 : DAt B3 43 (.aload_n 0) 1 44 := ⟨by decide +kernel, rfl⟩
theorem d3_44 : DAt B3 44 (.getfield 7) 3 47 := ⟨by decide +kernel, rfl⟩
theorem d3_47 : DAt B3 47 (.aload_n 0) 1 48 := ⟨by decide +kernel, rfl⟩
theorem d3_48 : DAt B3 48 (.getfield 33) 3 51 := ⟨by decide +kernel, rfl⟩
theorem d3_51 : DAt B3 51 (.iload_n 1) 1 52 := ⟨by decide +kernel, rfl⟩
theorem d3_52 : DAt B3 52 (.iastore) 1 53 := ⟨by decide +kernel, rfl⟩
theorem d3_53 : DAt B3 53 (.aload_n 0) 1 54 := ⟨by decide +kernel, rfl⟩
theorem d3_54 : DAt B3 54 (.aload_n 0) 1 55 := ⟨by decide +kernel, rfl⟩
theorem d3_55 : DAt B3 55 (.getfield 33) 3 58 := ⟨by decide +kernel, rfl⟩
theorem d3_58 : DAt B3 58 (.iconst 1) 1 59 := ⟨by decide +kernel, rfl⟩
theorem d3_59 : DAt B3 59 (.iadd) 1 60 := ⟨by decide +kernel, rfl⟩
theorem d3_60 : DAt B3 60 (.putfield 33) 3 63 := ⟨by decide +kernel, rfl⟩
theorem d3_63 : DAt B3 63 (.aload_n 0) 1 64 := ⟨by decide +kernel, rfl⟩
theorem d3_64 : DAt B3 64 (.aload_n 0) 1 65 := ⟨by decide +kernel, rfl⟩
theorem d3_65 : DAt B3 65 (.getfield 36) 3 68 := ⟨by decide +kernel, rfl⟩
theorem d3_68 : DAt B3 68 (.iconst 1) 1 69 := ⟨by decide +kernel, rfl⟩
theorem d3_69 : DAt B3 69 (.iadd) 1 70 := ⟨by decide +kernel, rfl⟩
theorem d3_70 : DAt B3 70 (.iload_n 2) 1 71 := ⟨by decide +kernel, rfl⟩
theorem d3_71 : DAt B3 71 (.isub) 1 72 := ⟨by decide +kernel, rfl⟩
theorem d3_72 : DAt B3 72 (.putfield 36) 3 75 := ⟨by decide +kernel, rfl⟩
theorem d3_75 : DAt B3 75 (.aload_n 0) 1 76 := ⟨by decide +kernel, rfl⟩
theorem d3_76 : DAt B3 76 (.iconst 0) 1 77 := ⟨by decide +kernel, rfl⟩
theorem d3_77 : DAt B3 77 (.putfield 46) 3 80 := ⟨by decide +kernel, rfl⟩
theorem d3_80 : DAt B3 80 (.aload_n 0) 1 81 := ⟨by decide +kernel, rfl⟩
theorem d3_81 : DAt B3 81 (.invokevirtual 49) 3 84 := ⟨by decide +kernel, rfl⟩
theorem d3_84 : DAt B3 84 (.iconst 0) 1 85 := ⟨by decide +kernel, rfl⟩
theorem d3_85 : DAt B3 85 (.ireturn) 1 86 := ⟨by decide +kernel, rfl⟩
def B5 : Bdy := ((⟨"SaturProver", "length", "()I"⟩ : MethodName), prog_1_method_6_code, 1, (some .int), ({ frames := 0, cells := 0, slots := 0, locals := 0 } : Room))
theorem d5_0 : DAt B5 0 (.aload_n 0) 1 1 := ⟨by decide +kernel, rfl⟩
theorem d5_1 : DAt B5 1 (.getfield 33) 3 4 := ⟨by decide +kernel, rfl⟩
theorem d5_4 : DAt B5 4 (.ireturn) 1 5 := ⟨by decide +kernel, rfl⟩
def B6 : Bdy := ((⟨"SaturProver", "depth", "()I"⟩ : MethodName), prog_1_method_8_code, 1, (some .int), ({ frames := 0, cells := 0, slots := 0, locals := 0 } : Room))
theorem d6_0 : DAt B6 0 (.aload_n 0) 1 1 := ⟨by decide +kernel, rfl⟩
theorem d6_1 : DAt B6 1 (.getfield 36) 3 4 := ⟨by decide +kernel, rfl⟩
theorem d6_4 : DAt B6 4 (.ireturn) 1 5 := ⟨by decide +kernel, rfl⟩
def B8 : Bdy := ((⟨"SaturProver", "completeF", "()Z"⟩ : MethodName), prog_1_method_18_code, 1, (some .boolean), ({ frames := 0, cells := 0, slots := 0, locals := 0 } : Room))
theorem d8_0 : DAt B8 0 (.aload_n 0) 1 1 := ⟨by decide +kernel, rfl⟩
theorem d8_1 : DAt B8 1 (.getfield 36) 3 4 := ⟨by decide +kernel, rfl⟩
theorem d8_4 : DAt B8 4 (.iconst 1) 1 5 := ⟨by decide +kernel, rfl⟩
theorem d8_5 : DAt B8 5 (.if_icmp .ne 7) 3 8 := ⟨by decide +kernel, rfl⟩
theorem d8_8 : DAt B8 8 (.iconst 1) 1 9 := ⟨by decide +kernel, rfl⟩
theorem d8_9 : DAt B8 9 (.goto 4) 3 12 := ⟨by decide +kernel, rfl⟩
theorem d8_12 : DAt B8 12 (.iconst 0) 1 13 := ⟨by decide +kernel, rfl⟩
theorem d8_13 : DAt B8 13 (.ireturn) 1 14 := ⟨by decide +kernel, rfl⟩
def B13 : Bdy := ((⟨"SaturProver", "varWord", "(II)J"⟩ : MethodName), prog_1_method_32_code, 3, (some .long), ({ frames := 0, cells := 0, slots := 0, locals := 0 } : Room))
theorem d13_0 : DAt B13 0 (.iload_n 1) 1 1 := ⟨by decide +kernel, rfl⟩
theorem d13_1 : DAt B13 1 (.tableswitch 81 0 6 #[43, 47, 51, 55, 59, 63, 67]) 43 44 := ⟨by decide +kernel, rfl⟩
theorem d13_44 : DAt B13 44 (.ldc2_w 125) 3 47 := ⟨by decide +kernel, rfl⟩
theorem d13_47 : DAt B13 47 (.lreturn) 1 48 := ⟨by decide +kernel, rfl⟩
theorem d13_48 : DAt B13 48 (.ldc2_w 127) 3 51 := ⟨by decide +kernel, rfl⟩
theorem d13_51 : DAt B13 51 (.lreturn) 1 52 := ⟨by decide +kernel, rfl⟩
theorem d13_52 : DAt B13 52 (.ldc2_w 129) 3 55 := ⟨by decide +kernel, rfl⟩
theorem d13_55 : DAt B13 55 (.lreturn) 1 56 := ⟨by decide +kernel, rfl⟩
theorem d13_56 : DAt B13 56 (.ldc2_w 131) 3 59 := ⟨by decide +kernel, rfl⟩
theorem d13_59 : DAt B13 59 (.lreturn) 1 60 := ⟨by decide +kernel, rfl⟩
theorem d13_60 : DAt B13 60 (.ldc2_w 133) 3 63 := ⟨by decide +kernel, rfl⟩
theorem d13_63 : DAt B13 63 (.lreturn) 1 64 := ⟨by decide +kernel, rfl⟩
theorem d13_64 : DAt B13 64 (.ldc2_w 135) 3 67 := ⟨by decide +kernel, rfl⟩
theorem d13_67 : DAt B13 67 (.lreturn) 1 68 := ⟨by decide +kernel, rfl⟩
theorem d13_68 : DAt B13 68 (.iload_n 2) 1 69 := ⟨by decide +kernel, rfl⟩
theorem d13_69 : DAt B13 69 (.iconst 1) 1 70 := ⟨by decide +kernel, rfl⟩
theorem d13_70 : DAt B13 70 (.iand) 1 71 := ⟨by decide +kernel, rfl⟩
theorem d13_71 : DAt B13 71 (.ifCond .eq 9) 3 74 := ⟨by decide +kernel, rfl⟩
theorem d13_74 : DAt B13 74 (.ldc2_w 116) 3 77 := ⟨by decide +kernel, rfl⟩
theorem d13_77 : DAt B13 77 (.goto 4) 3 80 := ⟨by decide +kernel, rfl⟩
theorem d13_80 : DAt B13 80 (.lconst 0) 1 81 := ⟨by decide +kernel, rfl⟩
theorem d13_81 : DAt B13 81 (.lreturn) 1 82 := ⟨by decide +kernel, rfl⟩
theorem d13_82 : DAt B13 82 (.iload_n 2) 1 83 := ⟨by decide +kernel, rfl⟩
theorem d13_83 : DAt B13 83 (.iconst 2) 1 84 := ⟨by decide +kernel, rfl⟩
theorem d13_84 : DAt B13 84 (.iand) 1 85 := ⟨by decide +kernel, rfl⟩
theorem d13_85 : DAt B13 85 (.ifCond .eq 9) 3 88 := ⟨by decide +kernel, rfl⟩
theorem d13_88 : DAt B13 88 (.ldc2_w 116) 3 91 := ⟨by decide +kernel, rfl⟩
theorem d13_91 : DAt B13 91 (.goto 4) 3 94 := ⟨by decide +kernel, rfl⟩
theorem d13_94 : DAt B13 94 (.lconst 0) 1 95 := ⟨by decide +kernel, rfl⟩
theorem d13_95 : DAt B13 95 (.lreturn) 1 96 := ⟨by decide +kernel, rfl⟩
def B12 : Bdy := ((⟨"SaturProver", "leafWord", "(II)J"⟩ : MethodName), prog_1_method_31_code, 3, (some .long), ({ frames := 1, cells := 0, slots := 0, locals := 14 } : Room))
theorem d12_0 : DAt B12 0 (.iload_n 1) 1 1 := ⟨by decide +kernel, rfl⟩
theorem d12_1 : DAt B12 1 (.bipush 8) 2 3 := ⟨by decide +kernel, rfl⟩
theorem d12_3 : DAt B12 3 (.if_icmp .ne 5) 3 6 := ⟨by decide +kernel, rfl⟩
theorem d12_6 : DAt B12 6 (.lconst 0) 1 7 := ⟨by decide +kernel, rfl⟩
theorem d12_7 : DAt B12 7 (.lreturn) 1 8 := ⟨by decide +kernel, rfl⟩
theorem d12_8 : DAt B12 8 (.iload_n 1) 1 9 := ⟨by decide +kernel, rfl⟩
theorem d12_9 : DAt B12 9 (.bipush 9) 2 11 := ⟨by decide +kernel, rfl⟩
theorem d12_11 : DAt B12 11 (.if_icmp .ne 7) 3 14 := ⟨by decide +kernel, rfl⟩
theorem d12_14 : DAt B12 14 (.ldc2_w 116) 3 17 := ⟨by decide +kernel, rfl⟩
theorem d12_17 : DAt B12 17 (.lreturn) 1 18 := ⟨by decide +kernel, rfl⟩
theorem d12_18 : DAt B12 18 (.aload_n 0) 1 19 := ⟨by decide +kernel, rfl⟩
theorem d12_19 : DAt B12 19 (.iload_n 1) 1 20 := ⟨by decide +kernel, rfl⟩
theorem d12_20 : DAt B12 20 (.iload_n 2) 1 21 := ⟨by decide +kernel, rfl⟩
theorem d12_21 : DAt B12 21 (.invokevirtual 122) 3 24 := ⟨by decide +kernel, rfl⟩
theorem d12_24 : DAt B12 24 (.lreturn) 1 25 := ⟨by decide +kernel, rfl⟩
def B11 : Bdy := ((⟨"SaturProver", "pushLeaf", "(II)V"⟩ : MethodName), prog_1_method_27_code, 5, none, ({ frames := 2, cells := 0, slots := 0, locals := 30 } : Room))
theorem d11_0 : DAt B11 0 (.iload_n 2) 1 1 := ⟨by decide +kernel, rfl⟩
theorem d11_1 : DAt B11 1 (.iconst 4) 1 2 := ⟨by decide +kernel, rfl⟩
theorem d11_2 : DAt B11 2 (.imul) 1 3 := ⟨by decide +kernel, rfl⟩
theorem d11_3 : DAt B11 3 (.istore_n 3) 1 4 := ⟨by decide +kernel, rfl⟩
theorem d11_4 : DAt B11 4 (.iconst 0) 1 5 := ⟨by decide +kernel, rfl⟩
theorem d11_5 : DAt B11 5 (.istore 4) 2 7 := ⟨by decide +kernel, rfl⟩
theorem d11_7 : DAt B11 7 (.iload 4) 2 9 := ⟨by decide +kernel, rfl⟩
theorem d11_9 : DAt B11 9 (.iconst 4) 1 10 := ⟨by decide +kernel, rfl⟩
theorem d11_10 : DAt B11 10 (.if_icmp .ge 25) 3 13 := ⟨by decide +kernel, rfl⟩
theorem d11_13 : DAt B11 13 (.aload_n 0) 1 14 := ⟨by decide +kernel, rfl⟩
theorem d11_14 : DAt B11 14 (.getfield 16) 3 17 := ⟨by decide +kernel, rfl⟩
theorem d11_17 : DAt B11 17 (.iload_n 3) 1 18 := ⟨by decide +kernel, rfl⟩
theorem d11_18 : DAt B11 18 (.iload 4) 2 20 := ⟨by decide +kernel, rfl⟩
theorem d11_20 : DAt B11 20 (.iadd) 1 21 := ⟨by decide +kernel, rfl⟩
theorem d11_21 : DAt B11 21 (.aload_n 0) 1 22 := ⟨by decide +kernel, rfl⟩
theorem d11_22 : DAt B11 22 (.iload_n 1) 1 23 := ⟨by decide +kernel, rfl⟩
theorem d11_23 : DAt B11 23 (.iload 4) 2 25 := ⟨by decide +kernel, rfl⟩
theorem d11_25 : DAt B11 25 (.invokevirtual 112) 3 28 := ⟨by decide +kernel, rfl⟩
theorem d11_28 : DAt B11 28 (.lastore) 1 29 := ⟨by decide +kernel, rfl⟩
theorem d11_29 : DAt B11 29 (.iinc 4 1) 3 32 := ⟨by decide +kernel, rfl⟩
theorem d11_32 : DAt B11 32 (.goto (-25)) 3 35 := ⟨by decide +kernel, rfl⟩
theorem d11_35 : DAt B11 35 (.return_) 1 36 := ⟨by decide +kernel, rfl⟩
def B10 : Bdy := ((⟨"SaturProver", "step", "(II)I"⟩ : MethodName), prog_1_method_26_code, 4, (some .int), ({ frames := 3, cells := 0, slots := 0, locals := 46 } : Room))
theorem d10_0 : DAt B10 0 (.aload_n 0) 1 1 := ⟨by decide +kernel, rfl⟩
theorem d10_1 : DAt B10 1 (.iload_n 1) 1 2 := ⟨by decide +kernel, rfl⟩
theorem d10_2 : DAt B10 2 (.invokevirtual 52) 3 5 := ⟨by decide +kernel, rfl⟩
theorem d10_5 : DAt B10 5 (.istore_n 3) 1 6 := ⟨by decide +kernel, rfl⟩
theorem d10_6 : DAt B10 6 (.iload_n 3) 1 7 := ⟨by decide +kernel, rfl⟩
theorem d10_7 : DAt B10 7 (.iload_n 2) 1 8 := ⟨by decide +kernel, rfl⟩
theorem d10_8 : DAt B10 8 (.if_icmp .gt 9) 3 11 := ⟨by decide +kernel, rfl⟩
theorem d10_11 : DAt B10 11 (.iload_n 2) 1 12 := ⟨by decide +kernel, rfl⟩
theorem d10_12 : DAt B10 12 (.bipush 32) 2 14 := ⟨by decide +kernel, rfl⟩
theorem d10_14 : DAt B10 14 (.if_icmp .le 5) 3 17 := ⟨by decide +kernel, rfl⟩
theorem d10_17 : DAt B10 17 (.iload_n 2) 1 18 := ⟨by decide +kernel, rfl⟩
theorem d10_18 : DAt B10 18 (.ireturn) 1 19 := ⟨by decide +kernel, rfl⟩
theorem d10_19 : DAt B10 19 (.iload_n 3) 1 20 := ⟨by decide +kernel, rfl⟩
theorem d10_20 : DAt B10 20 (.ifCond .ne 21) 3 23 := ⟨by decide +kernel, rfl⟩
theorem d10_23 : DAt B10 23 (.iload_n 2) 1 24 := ⟨by decide +kernel, rfl⟩
theorem d10_24 : DAt B10 24 (.bipush 32) 2 26 := ⟨by decide +kernel, rfl⟩
theorem d10_26 : DAt B10 26 (.if_icmp .lt 5) 3 29 := ⟨by decide +kernel, rfl⟩
theorem d10_29 : DAt B10 29 (.iload_n 2) 1 30 := ⟨by decide +kernel, rfl⟩
theorem d10_30 : DAt B10 30 (.ireturn) 1 31 := ⟨by decide +kernel, rfl⟩
theorem d10_31 : DAt B10 31 (.aload_n 0) 1 32 := ⟨by decide +kernel, rfl⟩
theorem d10_32 : DAt B10 32 (.iload_n 1) 1 33 := ⟨by decide +kernel, rfl⟩
theorem d10_33 : DAt B10 33 (.iload_n 2) 1 34 := ⟨by decide +kernel, rfl⟩
theorem d10_34 : DAt B10 34 (.invokevirtual 103) 3 37 := ⟨by decide +kernel, rfl⟩
theorem d10_37 : DAt B10 37 (.iload_n 2) 1 38 := ⟨by decide +kernel, rfl⟩
theorem d10_38 : DAt B10 38 (.iconst 1) 1 39 := ⟨by decide +kernel, rfl⟩
theorem d10_39 : DAt B10 39 (.iadd) 1 40 := ⟨by decide +kernel, rfl⟩
theorem d10_40 : DAt B10 40 (.ireturn) 1 41 := ⟨by decide +kernel, rfl⟩
theorem d10_41 : DAt B10 41 (.iload_n 3) 1 42 := ⟨by decide +kernel, rfl⟩
theorem d10_42 : DAt B10 42 (.iconst 1) 1 43 := ⟨by decide +kernel, rfl⟩
theorem d10_43 : DAt B10 43 (.if_icmp .ne 12) 3 46 := ⟨by decide +kernel, rfl⟩
theorem d10_46 : DAt B10 46 (.aload_n 0) 1 47 := ⟨by decide +kernel, rfl⟩
theorem d10_47 : DAt B10 47 (.iload_n 2) 1 48 := ⟨by decide +kernel, rfl⟩
theorem d10_48 : DAt B10 48 (.iconst 1) 1 49 := ⟨by decide +kernel, rfl⟩
theorem d10_49 : DAt B10 49 (.isub) 1 50 := ⟨by decide +kernel, rfl⟩
theorem d10_55 : DAt B10 55 (.aload_n 0) 1 56 := ⟨by decide +kernel, rfl⟩
theorem d10_56 : DAt B10 56 (.iload_n 1) 1 57 := ⟨by decide +kernel, rfl⟩
theorem d10_57 : DAt B10 57 (.iload_n 2) 1 58 := ⟨by decide +kernel, rfl⟩
theorem d10_58 : DAt B10 58 (.iconst 2) 1 59 := ⟨by decide +kernel, rfl⟩
theorem d10_59 : DAt B10 59 (.isub) 1 60 := ⟨by decide +kernel, rfl⟩
def B14 : Bdy := ((⟨"SaturProver", "storeTopIntoF", "(I)V"⟩ : MethodName), prog_1_method_25_code, 5, none, ({ frames := 0, cells := 0, slots := 0, locals := 0 } : Room))
theorem d14_0 : DAt B14 0 (.iconst 0) 1 1 := ⟨by decide +kernel, rfl⟩
theorem d14_1 : DAt B14 1 (.istore_n 2) 1 2 := ⟨by decide +kernel, rfl⟩
theorem d14_2 : DAt B14 2 (.iload_n 2) 1 3 := ⟨by decide +kernel, rfl⟩
theorem d14_3 : DAt B14 3 (.iconst 4) 1 4 := ⟨by decide +kernel, rfl⟩
theorem d14_4 : DAt B14 4 (.if_icmp .ge 42) 3 7 := ⟨by decide +kernel, rfl⟩
theorem d14_7 : DAt B14 7 (.lconst 0) 1 8 := ⟨by decide +kernel, rfl⟩
theorem d14_8 : DAt B14 8 (.lstore_n 3) 1 9 := ⟨by decide +kernel, rfl⟩
theorem d14_9 : DAt B14 9 (.iload_n 1) 1 10 := ⟨by decide +kernel, rfl⟩
theorem d14_10 : DAt B14 10 (.iconst 1) 1 11 := ⟨by decide +kernel, rfl⟩
theorem d14_11 : DAt B14 11 (.if_icmp .lt 22) 3 14 := ⟨by decide +kernel, rfl⟩
theorem d14_14 : DAt B14 14 (.iload_n 1) 1 15 := ⟨by decide +kernel, rfl⟩
theorem d14_15 : DAt B14 15 (.bipush 32) 2 17 := ⟨by decide +kernel, rfl⟩
theorem d14_17 : DAt B14 17 (.if_icmp .gt 16) 3 20 := ⟨by decide +kernel, rfl⟩
theorem d14_20 : DAt B14 20 (.aload_n 0) 1 21 := ⟨by decide +kernel, rfl⟩
theorem d14_21 : DAt B14 21 (.getfield 16) 3 24 := ⟨by decide +kernel, rfl⟩
theorem d14_24 : DAt B14 24 (.iload_n 1) 1 25 := ⟨by decide +kernel, rfl⟩
theorem d14_25 : DAt B14 25 (.iconst 1) 1 26 := ⟨by decide +kernel, rfl⟩
theorem d14_26 : DAt B14 26 (.isub) 1 27 := ⟨by decide +kernel, rfl⟩
theorem d14_27 : DAt B14 27 (.iconst 4) 1 28 := ⟨by decide +kernel, rfl⟩
theorem d14_28 : DAt B14 28 (.imul) 1 29 := ⟨by decide +kernel, rfl⟩
theorem d14_29 : DAt B14 29 (.iload_n 2) 1 30 := ⟨by decide +kernel, rfl⟩
theorem d14_30 : DAt B14 30 (.iadd) 1 31 := ⟨by decide +kernel, rfl⟩
theorem d14_31 : DAt B14 31 (.laload) 1 32 := ⟨by decide +kernel, rfl⟩
theorem d14_32 : DAt B14 32 (.lstore_n 3) 1 33 := ⟨by decide +kernel, rfl⟩
theorem d14_33 : DAt B14 33 (.aload_n 0) 1 34 := ⟨by decide +kernel, rfl⟩
theorem d14_34 : DAt B14 34 (.getfield 20) 3 37 := ⟨by decide +kernel, rfl⟩
theorem d14_37 : DAt B14 37 (.iload_n 2) 1 38 := ⟨by decide +kernel, rfl⟩
theorem d14_38 : DAt B14 38 (.lload_n 3) 1 39 := ⟨by decide +kernel, rfl⟩
theorem d14_39 : DAt B14 39 (.lastore) 1 40 := ⟨by decide +kernel, rfl⟩
theorem d14_40 : DAt B14 40 (.iinc 2 1) 3 43 := ⟨by decide +kernel, rfl⟩
theorem d14_43 : DAt B14 43 (.goto (-41)) 3 46 := ⟨by decide +kernel, rfl⟩
theorem d14_46 : DAt B14 46 (.return_) 1 47 := ⟨by decide +kernel, rfl⟩
def B9 : Bdy := ((⟨"SaturProver", "ensureTableF", "()V"⟩ : MethodName), prog_1_method_24_code, 4, none, ({ frames := 4, cells := 0, slots := 0, locals := 61 } : Room))
theorem d9_0 : DAt B9 0 (.aload_n 0) 1 1 := ⟨by decide +kernel, rfl⟩
theorem d9_1 : DAt B9 1 (.getfield 46) 3 4 := ⟨by decide +kernel, rfl⟩
theorem d9_4 : DAt B9 4 (.ifCond .eq 4) 3 7 := ⟨by decide +kernel, rfl⟩
theorem d9_7 : DAt B9 7 (.return_) 1 8 := ⟨by decide +kernel, rfl⟩
theorem d9_8 : DAt B9 8 (.aload_n 0) 1 9 := ⟨by decide +kernel, rfl⟩
theorem d9_9 : DAt B9 9 (.getfield 33) 3 12 := ⟨by decide +kernel, rfl⟩
theorem d9_12 : DAt B9 12 (.istore_n 1) 1 13 := ⟨by decide +kernel, rfl⟩
theorem d9_13 : DAt B9 13 (.iload_n 1) 1 14 := ⟨by decide +kernel, rfl⟩
theorem d9_14 : DAt B9 14 (.bipush 32) 2 16 := ⟨by decide +kernel, rfl⟩
theorem d9_16 : DAt B9 16 (.if_icmp .le 6) 3 19 := ⟨by decide +kernel, rfl⟩
theorem d9_19 : DAt B9 19 (.bipush 32) 2 21 := ⟨by decide +kernel, rfl⟩
theorem d9_21 : DAt B9 21 (.istore_n 1) 1 22 := ⟨by decide +kernel, rfl⟩
theorem d9_22 : DAt B9 22 (.iconst 0) 1 23 := ⟨by decide +kernel, rfl⟩
theorem d9_23 : DAt B9 23 (.istore_n 2) 1 24 := ⟨by decide +kernel, rfl⟩
theorem d9_24 : DAt B9 24 (.iconst 0) 1 25 := ⟨by decide +kernel, rfl⟩
theorem d9_25 : DAt B9 25 (.istore_n 3) 1 26 := ⟨by decide +kernel, rfl⟩
theorem d9_26 : DAt B9 26 (.iload_n 3) 1 27 := ⟨by decide +kernel, rfl⟩
theorem d9_27 : DAt B9 27 (.iload_n 1) 1 28 := ⟨by decide +kernel, rfl⟩
theorem d9_28 : DAt B9 28 (.if_icmp .ge 21) 3 31 := ⟨by decide +kernel, rfl⟩
theorem d9_31 : DAt B9 31 (.aload_n 0) 1 32 := ⟨by decide +kernel, rfl⟩
theorem d9_32 : DAt B9 32 (.aload_n 0) 1 33 := ⟨by decide +kernel, rfl⟩
theorem d9_33 : DAt B9 33 (.getfield 7) 3 36 := ⟨by decide +kernel, rfl⟩
theorem d9_36 : DAt B9 36 (.iload_n 3) 1 37 := ⟨by decide +kernel, rfl⟩
theorem d9_37 : DAt B9 37 (.iaload) 1 38 := ⟨by decide +kernel, rfl⟩
theorem d9_38 : DAt B9 38 (.iload_n 2) 1 39 := ⟨by decide +kernel, rfl⟩
theorem d9_39 : DAt B9 39 (.invokevirtual 95) 3 42 := ⟨by decide +kernel, rfl⟩
theorem d9_42 : DAt B9 42 (.istore_n 2) 1 43 := ⟨by decide +kernel, rfl⟩
theorem d9_43 : DAt B9 43 (.iinc 3 1) 3 46 := ⟨by decide +kernel, rfl⟩
theorem d9_46 : DAt B9 46 (.goto (-20)) 3 49 := ⟨by decide +kernel, rfl⟩
theorem d9_49 : DAt B9 49 (.aload_n 0) 1 50 := ⟨by decide +kernel, rfl⟩
theorem d9_50 : DAt B9 50 (.iload_n 2) 1 51 := ⟨by decide +kernel, rfl⟩
theorem d9_51 : DAt B9 51 (.invokevirtual 99) 3 54 := ⟨by decide +kernel, rfl⟩
theorem d9_54 : DAt B9 54 (.aload_n 0) 1 55 := ⟨by decide +kernel, rfl⟩
theorem d9_55 : DAt B9 55 (.iconst 1) 1 56 := ⟨by decide +kernel, rfl⟩
theorem d9_56 : DAt B9 56 (.putfield 46) 3 59 := ⟨by decide +kernel, rfl⟩
theorem d9_59 : DAt B9 59 (.return_) 1 60 := ⟨by decide +kernel, rfl⟩
def B15 : Bdy := ((⟨"SaturProver", "bitOfF", "(I)I"⟩ : MethodName), prog_1_method_33_code, 5, (some .int), ({ frames := 0, cells := 0, slots := 0, locals := 0 } : Room))
theorem d15_0 : DAt B15 0 (.iload_n 1) 1 1 := ⟨by decide +kernel, rfl⟩
theorem d15_1 : DAt B15 1 (.bipush 6) 2 3 := ⟨by decide +kernel, rfl⟩
theorem d15_3 : DAt B15 3 (.ishr) 1 4 := ⟨by decide +kernel, rfl⟩
theorem d15_4 : DAt B15 4 (.iconst 3) 1 5 := ⟨by decide +kernel, rfl⟩
theorem d15_5 : DAt B15 5 (.iand) 1 6 := ⟨by decide +kernel, rfl⟩
theorem d15_6 : DAt B15 6 (.istore_n 2) 1 7 := ⟨by decide +kernel, rfl⟩
theorem d15_7 : DAt B15 7 (.aload_n 0) 1 8 := ⟨by decide +kernel, rfl⟩
theorem d15_8 : DAt B15 8 (.getfield 20) 3 11 := ⟨by decide +kernel, rfl⟩
theorem d15_11 : DAt B15 11 (.iload_n 2) 1 12 := ⟨by decide +kernel, rfl⟩
theorem d15_12 : DAt B15 12 (.laload) 1 13 := ⟨by decide +kernel, rfl⟩
theorem d15_13 : DAt B15 13 (.lstore_n 3) 1 14 := ⟨by decide +kernel, rfl⟩
theorem d15_14 : DAt B15 14 (.lload_n 3) 1 15 := ⟨by decide +kernel, rfl⟩
theorem d15_15 : DAt B15 15 (.iload_n 1) 1 16 := ⟨by decide +kernel, rfl⟩
theorem d15_16 : DAt B15 16 (.bipush 63) 2 18 := ⟨by decide +kernel, rfl⟩
theorem d15_18 : DAt B15 18 (.iand) 1 19 := ⟨by decide +kernel, rfl⟩
theorem d15_19 : DAt B15 19 (.lushr) 1 20 := ⟨by decide +kernel, rfl⟩
theorem d15_20 : DAt B15 20 (.lconst 1) 1 21 := ⟨by decide +kernel, rfl⟩
theorem d15_21 : DAt B15 21 (.land) 1 22 := ⟨by decide +kernel, rfl⟩
theorem d15_22 : DAt B15 22 (.l2i) 1 23 := ⟨by decide +kernel, rfl⟩
theorem d15_23 : DAt B15 23 (.ireturn) 1 24 := ⟨by decide +kernel, rfl⟩
def B7 : Bdy := ((⟨"SaturProver", "evaluate", "(I)I"⟩ : MethodName), prog_1_method_12_code, 2, (some .int), ({ frames := 5, cells := 0, slots := 0, locals := 76 } : Room))
theorem d7_0 : DAt B7 0 (.iload_n 1) 1 1 := ⟨by decide +kernel, rfl⟩
theorem d7_1 : DAt B7 1 (.ifCond .lt 10) 3 4 := ⟨by decide +kernel, rfl⟩
theorem d7_4 : DAt B7 4 (.iload_n 1) 1 5 := ⟨by decide +kernel, rfl⟩
theorem d7_5 : DAt B7 5 (.sipush 255) 3 8 := ⟨by decide +kernel, rfl⟩
theorem d7_8 : DAt B7 8 (.if_icmp .le 5) 3 11 := ⟨by decide +kernel, rfl⟩
theorem d7_11 : DAt B7 11 (.iconst (-1)) 1 12 := ⟨by decide +kernel, rfl⟩
theorem d7_12 : DAt B7 12 (.ireturn) 1 13 := ⟨by decide +kernel, rfl⟩
theorem d7_13 : DAt B7 13 (.aload_n 0) 1 14 := ⟨by decide +kernel, rfl⟩
theorem d7_14 : DAt B7 14 (.invokevirtual 56) 3 17 := ⟨by decide +kernel, rfl⟩
theorem d7_17 : DAt B7 17 (.ifCond .ne 6) 3 20 := ⟨by decide +kernel, rfl⟩
theorem d7_20 : DAt B7 20 (.bipush (-5)) 2 22 := ⟨by decide +kernel, rfl⟩
theorem d7_22 : DAt B7 22 (.ireturn) 1 23 := ⟨by decide +kernel, rfl⟩
theorem d7_23 : DAt B7 23 (.aload_n 0) 1 24 := ⟨by decide +kernel, rfl⟩
theorem d7_24 : DAt B7 24 (.invokevirtual 63) 3 27 := ⟨by decide +kernel, rfl⟩
theorem d7_27 : DAt B7 27 (.aload_n 0) 1 28 := ⟨by decide +kernel, rfl⟩
theorem d7_28 : DAt B7 28 (.iload_n 1) 1 29 := ⟨by decide +kernel, rfl⟩
theorem d7_29 : DAt B7 29 (.invokevirtual 69) 3 32 := ⟨by decide +kernel, rfl⟩
theorem d7_32 : DAt B7 32 (.ireturn) 1 33 := ⟨by decide +kernel, rfl⟩
def B16 : Bdy := ((⟨"SaturProver", "lastResult", "()I"⟩ : MethodName), prog_1_method_16_code, 1, (some .int), ({ frames := 0, cells := 0, slots := 0, locals := 0 } : Room))
theorem d16_0 : DAt B16 0 (.aload_n 0) 1 1 := ⟨by decide +kernel, rfl⟩
theorem d16_1 : DAt B16 1 (.getfield 89) 3 4 := ⟨by decide +kernel, rfl⟩
theorem d16_4 : DAt B16 4 (.ireturn) 1 5 := ⟨by decide +kernel, rfl⟩
def B17 : Bdy := ((⟨"SaturProver", "witness", "()I"⟩ : MethodName), prog_1_method_17_code, 1, (some .int), ({ frames := 0, cells := 0, slots := 0, locals := 0 } : Room))
theorem d17_0 : DAt B17 0 (.aload_n 0) 1 1 := ⟨by decide +kernel, rfl⟩
theorem d17_1 : DAt B17 1 (.getfield 92) 3 4 := ⟨by decide +kernel, rfl⟩
theorem d17_4 : DAt B17 4 (.ireturn) 1 5 := ⟨by decide +kernel, rfl⟩
def B0 : Bdy := (x, code, maxLocals, ret, room_1)
theorem d0_0 : DAt B0 0 (.new 7) 3 3 := ⟨at_0, rfl⟩
theorem d0_3 : DAt B0 3 (.dup) 1 4 := ⟨at_3, rfl⟩
theorem d0_4 : DAt B0 4 (.iload_n 0) 1 5 := ⟨at_4, rfl⟩
theorem d0_5 : DAt B0 5 (.invokespecial 9) 3 8 := ⟨at_5, rfl⟩
theorem d0_8 : DAt B0 8 (.astore_n 3) 1 9 := ⟨at_8, rfl⟩
theorem d0_9 : DAt B0 9 (.aload_n 3) 1 10 := ⟨at_9, rfl⟩
theorem d0_10 : DAt B0 10 (.iload_n 1) 1 11 := ⟨at_10, rfl⟩
theorem d0_11 : DAt B0 11 (.invokevirtual 12) 3 14 := ⟨at_11, rfl⟩
theorem d0_14 : DAt B0 14 (.istore 4) 2 16 := ⟨at_14, rfl⟩
theorem d0_16 : DAt B0 16 (.aload_n 3) 1 17 := ⟨at_16, rfl⟩
theorem d0_17 : DAt B0 17 (.invokevirtual 16) 3 20 := ⟨at_17, rfl⟩
theorem d0_20 : DAt B0 20 (.istore 5) 2 22 := ⟨at_20, rfl⟩
theorem d0_22 : DAt B0 22 (.aload_n 3) 1 23 := ⟨at_22, rfl⟩
theorem d0_23 : DAt B0 23 (.invokevirtual 20) 3 26 := ⟨at_23, rfl⟩
theorem d0_26 : DAt B0 26 (.istore 6) 2 28 := ⟨at_26, rfl⟩
theorem d0_28 : DAt B0 28 (.aload_n 3) 1 29 := ⟨at_28, rfl⟩
theorem d0_29 : DAt B0 29 (.iload_n 2) 1 30 := ⟨at_29, rfl⟩
theorem d0_30 : DAt B0 30 (.invokevirtual 23) 3 33 := ⟨at_30, rfl⟩
theorem d0_33 : DAt B0 33 (.istore 7) 2 35 := ⟨at_33, rfl⟩
theorem d0_35 : DAt B0 35 (.aload_n 3) 1 36 := ⟨at_35, rfl⟩
theorem d0_36 : DAt B0 36 (.invokevirtual 26) 3 39 := ⟨at_36, rfl⟩
theorem d0_39 : DAt B0 39 (.istore 8) 2 41 := ⟨at_39, rfl⟩
theorem d0_41 : DAt B0 41 (.aload_n 3) 1 42 := ⟨at_41, rfl⟩
theorem d0_42 : DAt B0 42 (.invokevirtual 29) 3 45 := ⟨at_42, rfl⟩
theorem d0_45 : DAt B0 45 (.istore 9) 2 47 := ⟨at_45, rfl⟩
theorem d0_47 : DAt B0 47 (.iconst 0) 1 48 := ⟨at_47, rfl⟩
theorem d0_48 : DAt B0 48 (.istore 10) 2 50 := ⟨at_48, rfl⟩
theorem d0_50 : DAt B0 50 (.iload_n 1) 1 51 := ⟨at_50, rfl⟩
theorem d0_51 : DAt B0 51 (.ifCond .lt 9) 3 54 := ⟨at_51, rfl⟩
theorem d0_54 : DAt B0 54 (.iload_n 1) 1 55 := ⟨at_54, rfl⟩
theorem d0_55 : DAt B0 55 (.bipush 15) 2 57 := ⟨at_55, rfl⟩
theorem d0_57 : DAt B0 57 (.if_icmp .le 9) 3 60 := ⟨at_57, rfl⟩
theorem d0_60 : DAt B0 60 (.iconst (-1)) 1 61 := ⟨at_60, rfl⟩
theorem d0_61 : DAt B0 61 (.istore 10) 2 63 := ⟨at_61, rfl⟩
theorem d0_63 : DAt B0 63 (.goto 13) 3 66 := ⟨at_63, rfl⟩
theorem d0_66 : DAt B0 66 (.iload_n 1) 1 67 := ⟨at_66, rfl⟩
theorem d0_67 : DAt B0 67 (.bipush 10) 2 69 := ⟨at_67, rfl⟩
theorem d0_69 : DAt B0 69 (.if_icmp .lt 7) 3 72 := ⟨at_69, rfl⟩
theorem d0_72 : DAt B0 72 (.bipush (-3)) 2 74 := ⟨at_72, rfl⟩
theorem d0_74 : DAt B0 74 (.istore 10) 2 76 := ⟨at_74, rfl⟩
theorem d0_76 : DAt B0 76 (.iload 10) 2 78 := ⟨at_76, rfl⟩
theorem d0_78 : DAt B0 78 (.ifCond .ne 7) 3 81 := ⟨at_78, rfl⟩
theorem d0_81 : DAt B0 81 (.iconst 1) 1 82 := ⟨at_81, rfl⟩
theorem d0_82 : DAt B0 82 (.goto 4) 3 85 := ⟨at_82, rfl⟩
theorem d0_85 : DAt B0 85 (.iconst 0) 1 86 := ⟨at_85, rfl⟩
theorem d0_86 : DAt B0 86 (.istore 11) 2 88 := ⟨at_86, rfl⟩
theorem d0_88 : DAt B0 88 (.iload_n 2) 1 89 := ⟨at_88, rfl⟩
theorem d0_89 : DAt B0 89 (.ifCond .lt 10) 3 92 := ⟨at_89, rfl⟩
theorem d0_92 : DAt B0 92 (.iload_n 2) 1 93 := ⟨at_92, rfl⟩
theorem d0_93 : DAt B0 93 (.sipush 255) 3 96 := ⟨at_93, rfl⟩
theorem d0_96 : DAt B0 96 (.if_icmp .le 9) 3 99 := ⟨at_96, rfl⟩
theorem d0_99 : DAt B0 99 (.iconst (-1)) 1 100 := ⟨at_99, rfl⟩
theorem d0_100 : DAt B0 100 (.istore 12) 2 102 := ⟨at_100, rfl⟩
theorem d0_102 : DAt B0 102 (.goto 46) 3 105 := ⟨at_102, rfl⟩
theorem d0_105 : DAt B0 105 (.iload 10) 2 107 := ⟨at_105, rfl⟩
theorem d0_107 : DAt B0 107 (.ifCond .eq 10) 3 110 := ⟨at_107, rfl⟩
theorem d0_110 : DAt B0 110 (.bipush (-5)) 2 112 := ⟨at_110, rfl⟩
theorem d0_112 : DAt B0 112 (.istore 12) 2 114 := ⟨at_112, rfl⟩
theorem d0_114 : DAt B0 114 (.goto 34) 3 117 := ⟨at_114, rfl⟩
theorem d0_117 : DAt B0 117 (.iload_n 1) 1 118 := ⟨at_117, rfl⟩
theorem d0_118 : DAt B0 118 (.bipush 8) 2 120 := ⟨at_118, rfl⟩
theorem d0_120 : DAt B0 120 (.if_icmp .ne 9) 3 123 := ⟨at_120, rfl⟩
theorem d0_123 : DAt B0 123 (.iconst 0) 1 124 := ⟨at_123, rfl⟩
theorem d0_124 : DAt B0 124 (.istore 12) 2 126 := ⟨at_124, rfl⟩
theorem d0_126 : DAt B0 126 (.goto 22) 3 129 := ⟨at_126, rfl⟩
theorem d0_129 : DAt B0 129 (.iload_n 1) 1 130 := ⟨at_129, rfl⟩
theorem d0_130 : DAt B0 130 (.bipush 9) 2 132 := ⟨at_130, rfl⟩
theorem d0_132 : DAt B0 132 (.if_icmp .ne 9) 3 135 := ⟨at_132, rfl⟩
theorem d0_135 : DAt B0 135 (.iconst 1) 1 136 := ⟨at_135, rfl⟩
theorem d0_136 : DAt B0 136 (.istore 12) 2 138 := ⟨at_136, rfl⟩
theorem d0_138 : DAt B0 138 (.goto 10) 3 141 := ⟨at_138, rfl⟩
theorem d0_141 : DAt B0 141 (.iload_n 2) 1 142 := ⟨at_141, rfl⟩
theorem d0_142 : DAt B0 142 (.iload_n 1) 1 143 := ⟨at_142, rfl⟩
theorem d0_143 : DAt B0 143 (.ishr) 1 144 := ⟨at_143, rfl⟩
theorem d0_144 : DAt B0 144 (.iconst 1) 1 145 := ⟨at_144, rfl⟩
theorem d0_145 : DAt B0 145 (.iand) 1 146 := ⟨at_145, rfl⟩
theorem d0_146 : DAt B0 146 (.istore 12) 2 148 := ⟨at_146, rfl⟩
theorem d0_148 : DAt B0 148 (.iload 4) 2 150 := ⟨at_148, rfl⟩
theorem d0_150 : DAt B0 150 (.iload 10) 2 152 := ⟨at_150, rfl⟩
theorem d0_152 : DAt B0 152 (.if_icmp .ne 39) 3 155 := ⟨at_152, rfl⟩
theorem d0_155 : DAt B0 155 (.iload 5) 2 157 := ⟨at_155, rfl⟩
theorem d0_157 : DAt B0 157 (.iload 11) 2 159 := ⟨at_157, rfl⟩
theorem d0_159 : DAt B0 159 (.if_icmp .ne 32) 3 162 := ⟨at_159, rfl⟩
theorem d0_162 : DAt B0 162 (.iload 6) 2 164 := ⟨at_162, rfl⟩
theorem d0_164 : DAt B0 164 (.iload 11) 2 166 := ⟨at_164, rfl⟩
theorem d0_166 : DAt B0 166 (.if_icmp .ne 25) 3 169 := ⟨at_166, rfl⟩
theorem d0_169 : DAt B0 169 (.iload 7) 2 171 := ⟨at_169, rfl⟩
theorem d0_171 : DAt B0 171 (.iload 12) 2 173 := ⟨at_171, rfl⟩
theorem d0_173 : DAt B0 173 (.if_icmp .ne 18) 3 176 := ⟨at_173, rfl⟩
theorem d0_176 : DAt B0 176 (.iload 8) 2 178 := ⟨at_176, rfl⟩
theorem d0_178 : DAt B0 178 (.ifCond .ne 13) 3 181 := ⟨at_178, rfl⟩
theorem d0_181 : DAt B0 181 (.iload 9) 2 183 := ⟨at_181, rfl⟩
theorem d0_183 : DAt B0 183 (.iconst (-1)) 1 184 := ⟨at_183, rfl⟩
theorem d0_184 : DAt B0 184 (.if_icmp .ne 7) 3 187 := ⟨at_184, rfl⟩
theorem d0_187 : DAt B0 187 (.iconst 1) 1 188 := ⟨at_187, rfl⟩
theorem d0_188 : DAt B0 188 (.goto 4) 3 191 := ⟨at_188, rfl⟩
theorem d0_191 : DAt B0 191 (.iconst 0) 1 192 := ⟨at_191, rfl⟩
theorem d0_192 : DAt B0 192 (.ireturn) 1 193 := ⟨at_192, rfl⟩
theorem ar1 : arity B1 1 := ⟨[.int], none, by decide +kernel, rfl⟩
theorem ar2 : arity B2 0 := ⟨[], none, by decide +kernel, rfl⟩
theorem ar3 : arity B3 1 := ⟨[.int], some .int, by decide +kernel, rfl⟩
theorem ar4 : arity B4 1 := ⟨[.int], some .int, by decide +kernel, rfl⟩
theorem ar5 : arity B5 0 := ⟨[], some .int, by decide +kernel, rfl⟩
theorem ar6 : arity B6 0 := ⟨[], some .int, by decide +kernel, rfl⟩
theorem ar7 : arity B7 1 := ⟨[.int], some .int, by decide +kernel, rfl⟩
theorem ar8 : arity B8 0 := ⟨[], some .boolean, by decide +kernel, rfl⟩
theorem ar9 : arity B9 0 := ⟨[], none, by decide +kernel, rfl⟩
theorem ar10 : arity B10 2 := ⟨[.int, .int], some .int, by decide +kernel, rfl⟩
theorem ar11 : arity B11 2 := ⟨[.int, .int], none, by decide +kernel, rfl⟩
theorem ar12 : arity B12 2 := ⟨[.int, .int], some .long, by decide +kernel, rfl⟩
theorem ar13 : arity B13 2 := ⟨[.int, .int], some .long, by decide +kernel, rfl⟩
theorem ar14 : arity B14 1 := ⟨[.int], none, by decide +kernel, rfl⟩
theorem ar15 : arity B15 1 := ⟨[.int], some .int, by decide +kernel, rfl⟩
theorem ar16 : arity B16 0 := ⟨[], some .int, by decide +kernel, rfl⟩
theorem ar17 : arity B17 0 := ⟨[], some .int, by decide +kernel, rfl⟩
theorem cw1 : code_w B1 := ⟨mem1 5 rfl, mem1 2 rfl, by decide⟩
theorem cw2 : code_w B2 := ⟨mem1 38 rfl, mem1 2 rfl, by decide⟩
theorem cw3 : code_w B3 := ⟨mem1 47 rfl, mem1 2 rfl, by decide⟩
theorem cw4 : code_w B4 := ⟨mem1 51 rfl, mem1 2 rfl, by decide⟩
theorem cw5 : code_w B5 := ⟨mem1 56 rfl, mem1 2 rfl, by decide⟩
theorem cw6 : code_w B6 := ⟨mem1 61 rfl, mem1 2 rfl, by decide⟩
theorem cw7 : code_w B7 := ⟨mem1 66 rfl, mem1 2 rfl, by decide⟩
theorem cw8 : code_w B8 := ⟨mem1 70 rfl, mem1 2 rfl, by decide⟩
theorem cw9 : code_w B9 := ⟨mem1 74 rfl, mem1 2 rfl, by decide⟩
theorem cw10 : code_w B10 := ⟨mem1 78 rfl, mem1 2 rfl, by decide⟩
theorem cw11 : code_w B11 := ⟨mem1 82 rfl, mem1 2 rfl, by decide⟩
theorem cw12 : code_w B12 := ⟨mem1 86 rfl, mem1 2 rfl, by decide⟩
theorem cw13 : code_w B13 := ⟨mem1 90 rfl, mem1 2 rfl, by decide⟩
theorem cw14 : code_w B14 := ⟨mem1 95 rfl, mem1 2 rfl, by decide⟩
theorem cw15 : code_w B15 := ⟨mem1 99 rfl, mem1 2 rfl, by decide⟩
theorem cw16 : code_w B16 := ⟨mem1 104 rfl, mem1 2 rfl, by decide⟩
theorem cw17 : code_w B17 := ⟨mem1 109 rfl, mem1 2 rfl, by decide⟩
theorem rk0_3_0 : room_ok B0 B3 0 := by decide
theorem rk0_5_0 : room_ok B0 B5 0 := by decide
theorem rk0_6_0 : room_ok B0 B6 0 := by decide
theorem rk0_7_0 : room_ok B0 B7 0 := by decide
theorem rk0_16_0 : room_ok B0 B16 0 := by decide
theorem rk0_17_0 : room_ok B0 B17 0 := by decide
theorem rk1_2_0 : room_ok B1 B2 0 := by decide
theorem rk3_2_0 : room_ok B3 B2 0 := by decide
theorem rk3_4_0 : room_ok B3 B4 0 := by decide
theorem rk7_8_0 : room_ok B7 B8 0 := by decide
theorem rk7_9_0 : room_ok B7 B9 0 := by decide
theorem rk7_15_0 : room_ok B7 B15 0 := by decide
theorem rk9_10_0 : room_ok B9 B10 0 := by decide
theorem rk9_14_0 : room_ok B9 B14 0 := by decide
theorem rk10_4_0 : room_ok B10 B4 0 := by decide
theorem rk10_11_0 : room_ok B10 B11 0 := by decide
theorem rk11_12_2 : room_ok B11 B12 2 := by decide
theorem rk12_13_0 : room_ok B12 B13 0 := by decide
def X_resetResult (ob : Rec) : Option (Rec) :=
  some (sI (sI ob 5 (0 : Int32)) 6 (-1 : Int32))
set_option maxRecDepth 65536 in
set_option maxHeartbeats 4000000 in
theorem X_resetResult_p {C : Ctx} {top : Nat} {a : Nat} {H : List (Nat × Nat × Rec)} {res : Rec} (ob : Rec) (hf : X_resetResult ob = some res) : Runs C B2 0 0 0 [vr a] [] (top, (a, 6, ob) :: H) (Ans none (top, (a, 6, res) :: H)) := by
  delta X_resetResult at hf
  obtain rfl := Option.some.inj hf
  exact Runs.aloadN d2_0 rfl <| Runs.iconst d2_1 ci_0 <| Runs.putI d2_2 w39 fS_5 (Or.inl w40) <| Runs.aloadN d2_5 rfl <| Runs.iconst d2_6 ci_m1 <| Runs.putI d2_7 w41 fS_6 (Or.inl w42) <| Runs.retV d2_10 rfl ⟨by decide, by decide⟩ ⟨rfl, rfl⟩
theorem X_resetResult_pay {C : Ctx} {top : Nat} {a : Nat} {H : List (Nat × Nat × Rec)} {res : Rec} {ob : Rec} (hf : X_resetResult ob = some res) : Pays C B2 [.ref a] (top, (a, 6, ob) :: H) (Ans none (top, (a, 6, res) :: H)) :=
  Pays.of pnK (Nat.le_of_ble_eq_true rfl) (P := [vr a]) 0 rfl (X_resetResult_p ob hf)
def X_init_b70 (ob : Rec) (i2 : Int32) : Option (Rec) :=
  (X_resetResult (sI (sI (sI (sI (sI (sI ob 0 i2) 1 (0 : Int32)) 2 (0 : Int32)) 3 (0 : Int32)) 4 (0 : Int32)) 7 (0 : Int32))).bind fun q2 =>
  some q2
set_option maxRecDepth 65536 in
set_option maxHeartbeats 4000000 in
theorem X_init_b70_p {C : Ctx} {a : Nat} {H : List (Nat × Nat × Rec)} {res : Rec} (ob : Rec) (i2 : Int32) (hf : X_init_b70 ob i2 = some res) : Runs C B1 6 204 70 [vr a, vn, vi i2] [] (a + 1 + 6, (a, 6, ob) :: H) (Ans none (a + 1 + 6, (a, 6, res) :: H)) := by
  delta X_init_b70 at hf
  refine Runs.aloadN d1_70 rfl <| Runs.iloadN d1_71 rfl <| Runs.putI d1_72 w23 fS_0 (Or.inl w24) <| Runs.aloadN d1_75 rfl <| Runs.iconst d1_76 ci_0 <| Runs.putI d1_77 w25 fS_1 (Or.inl w26) <| Runs.aloadN d1_80 rfl <| Runs.iconst d1_81 ci_0 <| Runs.putI d1_82 w27 fS_2 (Or.inl w28) <| Runs.aloadN d1_85 rfl <| Runs.iconst d1_86 ci_0 <| Runs.putI d1_87 w29 fS_3 (Or.inl w30) <| ?_
  refine Runs.aloadN d1_90 rfl <| Runs.iconst d1_91 ci_0 <| Runs.putZ (y := (0 : Int32)) d1_92 w31 fS_4 (Or.inl w32) rfl <| Runs.aloadN d1_95 rfl <| Runs.iconst d1_96 ci_0 <| Runs.putZ (y := (0 : Int32)) d1_97 w33 fS_7 (Or.inl w34) rfl <| Runs.aloadN d1_100 rfl <| ?_
  refine bind_el hf fun q2 hg3 hf => ?_
  obtain rfl := Option.some.inj hf
  exact Runs.callP (N := B2) (W := 0) (as := []) (S' := []) d1_101 w35 w36 w37 rfl cw2 ar2 rk1_2_0 (by decide) rfl rfl (X_resetResult_pay hg3) <| ans0 <| Runs.retV d1_104 rfl ⟨by decide, by decide⟩ ⟨rfl, rfl⟩
def X_init_b61 (ob : Rec) (i2 : Int32) : Option (Rec) :=
  if (32 : Int32) < i2 then
    X_init_b70 ob (32 : Int32)
  else
    X_init_b70 ob i2
set_option maxRecDepth 65536 in
set_option maxHeartbeats 4000000 in
theorem X_init_b61_p {C : Ctx} {a : Nat} {H : List (Nat × Nat × Rec)} {res : Rec} (ob : Rec) (i2 : Int32) (hf : X_init_b61 ob i2 = some res) : Runs C B1 6 204 61 [vr a, vn, vi i2] [] (a + 1 + 6, (a, 6, ob) :: H) (Ans none (a + 1 + 6, (a, 6, res) :: H)) := by
  delta X_init_b61 at hf
  refine Runs.iloadN d1_61 rfl <| Runs.bipush d1_62 cb_32 <| ?_
  refine ite_el hf (fun hc1 hf => ?_) (fun hc1 hf => ?_)
  · refine Runs.icN d1_64 (tlt hc1).2.2.2 <| ?_
    exact Runs.bipush d1_67 cb_32 <| Runs.istoreN (P' := [vr a, vn, vi (32 : Int32)]) d1_69 (by decide) rfl <| X_init_b70_p ob (32 : Int32) hf
  · exact Runs.icY (pc' := 70) d1_64 (flt hc1).2.2.2 (by decide) <| X_init_b70_p ob i2 hf
def X_init (i1 : Int32) : Option (Rec) :=
  if i1 < (8 : Int32) then
    X_init_b61 zrec (8 : Int32)
  else
    X_init_b61 zrec i1
set_option maxRecDepth 65536 in
set_option maxHeartbeats 4000000 in
theorem X_init_p {C : Ctx} {a : Nat} {H : List (Nat × Nat × Rec)} {res : Rec} (i1 : Int32) (hf : X_init i1 = some res) : Runs C B1 0 0 0 [vr a, vi i1, vn] [] (a + 1, (a, 0, zrec) :: H) (Ans none (a + 1 + 6, (a, 6, res) :: H)) := by
  delta X_init at hf
  refine Runs.aloadN d1_0 rfl <| Runs.initO (W := 0) d1_1 w6 w7 w8 rfl (by decide) <| Runs.aloadN d1_4 rfl <| Runs.bipush d1_5 cb_32 <| Runs.newArr (j' := 1) (top' := a + 1 + 1) (k' := 1) (n' := 32) d1_7 d1_9 fA_0 w10 rfl w9 (Or.inr ⟨rfl, rfl⟩) rfl (by decide) ⟨by decide, by decide⟩ ⟨fun _ => rfl, fun _ => rfl⟩ rfl rfl rfl (by decide) <| Runs.aloadN d1_12 rfl <| Runs.bipush d1_13 cb_32 <| Runs.newArr (j' := 2) (top' := a + 1 + 2) (k' := 2) (n' := 64) d1_15 d1_17 fA_1 w12 rfl w9 (Or.inr ⟨rfl, rfl⟩) rfl (by decide) ⟨by decide, by decide⟩ ⟨fun _ => rfl, fun _ => rfl⟩ rfl rfl rfl (by decide) <| Runs.aloadN d1_20 rfl <| Runs.sipush d1_21 cs_128 <| Runs.newArr (j' := 3) (top' := a + 1 + 3) (k' := 3) (n' := 192) d1_24 d1_26 fA_2 w15 rfl w14 (Or.inr ⟨rfl, rfl⟩) rfl (by decide) ⟨by decide, by decide⟩ ⟨fun _ => rfl, fun _ => rfl⟩ rfl rfl rfl (by decide) <| Runs.aloadN d1_29 rfl <| ?_
  refine Runs.iconst d1_30 ci_4 <| Runs.newArr (j' := 4) (top' := a + 1 + 4) (k' := 4) (n' := 196) d1_31 d1_33 fA_3 w17 rfl w14 (Or.inr ⟨rfl, rfl⟩) rfl (by decide) ⟨by decide, by decide⟩ ⟨fun _ => rfl, fun _ => rfl⟩ rfl rfl rfl (by decide) <| Runs.aloadN d1_36 rfl <| Runs.iconst d1_37 ci_4 <| Runs.newArr (j' := 5) (top' := a + 1 + 5) (k' := 5) (n' := 200) d1_38 d1_40 fA_4 w19 rfl w14 (Or.inr ⟨rfl, rfl⟩) rfl (by decide) ⟨by decide, by decide⟩ ⟨fun _ => rfl, fun _ => rfl⟩ rfl rfl rfl (by decide) <| Runs.aloadN d1_43 rfl <| Runs.iconst d1_44 ci_4 <| Runs.newArr (j' := 6) (top' := a + 1 + 6) (k' := 6) (n' := 204) d1_45 d1_47 fA_5 w21 rfl w14 (Or.inr ⟨rfl, rfl⟩) rfl (by decide) ⟨by decide, by decide⟩ ⟨fun _ => rfl, fun _ => rfl⟩ rfl rfl rfl (by decide) <| Runs.iloadN d1_50 rfl <| Runs.istoreN (P' := [vr a, vi i1, vi i1]) d1_51 (by decide) rfl <| Runs.iloadN d1_52 rfl <| Runs.bipush d1_53 cb_8 <| ?_
  refine ite_el hf (fun hc4 hf => ?_) (fun hc4 hf => ?_)
  · refine Runs.icN d1_55 (tlt hc4).2.1 <| ?_
    exact Runs.bipush d1_58 cb_8 <| Runs.istoreN (P' := [vr a, vi i1, vi (8 : Int32)]) d1_60 (by decide) rfl <| Runs.forget [true, false, true] rfl <| X_init_b61_p zrec (8 : Int32) hf
  · exact Runs.icY (pc' := 61) d1_55 (flt hc4).2.1 (by decide) <| Runs.forget [true, false, true] rfl <| X_init_b61_p zrec i1 hf
theorem X_init_pay {C : Ctx} {a : Nat} {H : List (Nat × Nat × Rec)} {res : Rec} {i1 : Int32} (hf : X_init i1 = some res) : Pays C B1 [.ref a, .int i1] (a + 1, (a, 0, zrec) :: H) (Ans none (a + 1 + 6, (a, 6, res) :: H)) :=
  Pays.of pnK (Nat.le_of_ble_eq_true rfl) (P := [vr a, vi i1, vn]) 1 rfl (X_init_p i1 hf)
def X_arity (ob : Rec) (i1 : Int32) : Option (Int32) :=
  if (9 : Int32) < i1 then
    if i1 = (10 : Int32) then
      some (1 : Int32)
    else
      some (2 : Int32)
  else
    some (0 : Int32)
set_option maxRecDepth 65536 in
set_option maxHeartbeats 4000000 in
theorem X_arity_p {C : Ctx} {top : Nat} {a : Nat} {H : List (Nat × Nat × Rec)} {ob : Rec} {res : Int32} (i1 : Int32) (hf : X_arity ob i1 = some res) : Runs C B4 0 0 0 [vr a, vi i1] [] (top, (a, 6, ob) :: H) (Ans (some (.int res)) (top, (a, 6, ob) :: H)) := by
  delta X_arity at hf
  refine Runs.iloadN d4_0 rfl <| Runs.bipush d4_1 cb_9 <| ?_
  refine ite_el hf (fun hc1 hf => ?_) (fun hc1 hf => ?_)
  · refine Runs.icY (pc' := 8) d4_3 (tlt hc1).2.2.1 (by decide) <| ?_
    refine Runs.iloadN d4_8 rfl <| Runs.bipush d4_9 cb_10 <| ?_
    refine ite_el hf (fun hc2 hf => ?_) (fun hc2 hf => ?_)
    · refine Runs.icN d4_11 (teq hc2).2 <| ?_
      obtain rfl := Option.some.inj hf
      exact Runs.iconst d4_14 ci_1 <| Runs.retI d4_15 rfl ⟨by decide, by decide⟩ ⟨rfl, rfl⟩
    · refine Runs.icY (pc' := 16) d4_11 (feq hc2).2 (by decide) <| ?_
      obtain rfl := Option.some.inj hf
      exact Runs.iconst d4_16 ci_2 <| Runs.retI d4_17 rfl ⟨by decide, by decide⟩ ⟨rfl, rfl⟩
  · refine Runs.icN d4_3 (flt hc1).2.2.1 <| ?_
    obtain rfl := Option.some.inj hf
    exact Runs.iconst d4_6 ci_0 <| Runs.retI d4_7 rfl ⟨by decide, by decide⟩ ⟨rfl, rfl⟩
theorem X_arity_pay {C : Ctx} {top : Nat} {a : Nat} {H : List (Nat × Nat × Rec)} {ob : Rec} {res : Int32} {i1 : Int32} (hf : X_arity ob i1 = some res) : Pays C B4 [.ref a, .int i1] (top, (a, 6, ob) :: H) (Ans (some (.int res)) (top, (a, 6, ob) :: H)) :=
  Pays.of pnK (Nat.le_of_ble_eq_true rfl) (P := [vr a, vi i1]) 0 rfl (X_arity_p i1 hf)
def X_pushToken (ob : Rec) (i1 : Int32) : Option (Int32 × Rec) :=
  if i1 < (0 : Int32) then
    some ((-1 : Int32), ob)
  else
    if (15 : Int32) < i1 then
      some ((-1 : Int32), ob)
    else
      if (gI ob 1) < (gI ob 0) then
        (X_arity ob i1).bind fun r4 =>
        if (gI ob 2) < r4 then
          some ((-3 : Int32), ob)
        else
          chk (32 : Int32) (gI ob 1) <|
          (X_resetResult (sI (sI (sI (sA ob 0 (gI ob 1) i1) 1 ((gI ob 1) + (1 : Int32))) 2 (((gI ob 2) + (1 : Int32)) - r4)) 7 (0 : Int32))).bind fun q8 =>
          some ((0 : Int32), q8)
      else
        some ((-2 : Int32), ob)
set_option maxRecDepth 65536 in
set_option maxHeartbeats 4000000 in
theorem X_pushToken_p {C : Ctx} {top : Nat} {a : Nat} {H : List (Nat × Nat × Rec)} {res : Int32 × Rec} (ob : Rec) (i1 : Int32) (hf : X_pushToken ob i1 = some res) : Runs C B3 0 0 0 [vr a, vi i1, vn] [] (top, (a, 6, ob) :: H) (Ans (some (.int res.1)) (top, (a, 6, res.2) :: H)) := by
  delta X_pushToken at hf
  refine Runs.iloadN d3_0 rfl <| ?_
  refine ite_el hf (fun hc1 hf => ?_) (fun hc1 hf => ?_)
  · refine Runs.ifY (pc' := 10) d3_1 (tlt hc1).1 (by decide) <| ?_
    obtain rfl := Option.some.inj hf
    exact Runs.iconst d3_10 ci_m1 <| Runs.retI d3_11 rfl ⟨by decide, by decide⟩ ⟨rfl, rfl⟩
  · refine Runs.ifN d3_1 (flt hc1).1 <| ?_
    refine Runs.iloadN d3_4 rfl <| Runs.bipush d3_5 cb_15 <| ?_
    refine ite_el hf (fun hc2 hf => ?_) (fun hc2 hf => ?_)
    · refine Runs.icN d3_7 (tlt hc2).2.2.2 <| ?_
      obtain rfl := Option.some.inj hf
      exact Runs.iconst d3_10 ci_m1 <| Runs.retI d3_11 rfl ⟨by decide, by decide⟩ ⟨rfl, rfl⟩
    · refine Runs.icY (pc' := 12) d3_7 (flt hc2).2.2.2 (by decide) <| ?_
      refine Runs.aloadN d3_12 rfl <| Runs.getI d3_13 w25 fS_1 <| Runs.aloadN d3_16 rfl <| Runs.getI d3_17 w23 fS_0 <| ?_
      refine ite_el hf (fun hc3 hf => ?_) (fun hc3 hf => ?_)
      · refine Runs.icY (pc' := 26) d3_20 (tlt hc3).1 (by decide) <| ?_
        refine Runs.aloadN d3_26 rfl <| Runs.iloadN d3_27 rfl <| ?_
        refine bind_el hf fun r4 hg5 hf => ?_
        refine Runs.callP (N := B4) (W := 0) (as := [.int i1]) (S' := []) d3_28 w48 w49 w50 rfl cw4 ar4 rk3_4_0 (by decide) rfl rfl (X_arity_pay hg5) <| ans1 <| Runs.istoreN (P' := [vr a, vi i1, vi r4]) d3_31 (by decide) rfl <| Runs.iloadN d3_32 rfl <| Runs.aloadN d3_33 rfl <| Runs.getI d3_34 w27 fS_2 <| ?_
        refine ite_el hf (fun hc6 hf => ?_) (fun hc6 hf => ?_)
        · refine Runs.icN d3_37 (tlt hc6).2.2.2 <| ?_
          obtain rfl := Option.some.inj hf
          exact Runs.bipush d3_40 cb_m3 <| Runs.retI d3_42 rfl ⟨by decide, by decide⟩ ⟨rfl, rfl⟩
        · refine Runs.icY (pc' := 43) d3_37 (flt hc6).2.2.2 (by decide) <| ?_
          refine Runs.aloadN d3_43 rfl <| Runs.getA d3_44 fA_0 w10 (by decide) <| Runs.aloadN d3_47 rfl <| Runs.getI d3_48 w25 fS_1 <| Runs.iloadN d3_51 rfl <| ?_
          refine chk_el hf fun hi7 hf => ?_
          refine Runs.iastoreA d3_52 fA_0 (by decide) hi7 <| Runs.aloadN d3_53 rfl <| Runs.aloadN d3_54 rfl <| Runs.getI d3_55 w25 fS_1 <| Runs.iconst d3_58 ci_1 <| Runs.iadd d3_59 <| Runs.putI d3_60 w25 fS_1 (Or.inl w26) <| Runs.aloadN d3_63 rfl <| Runs.aloadN d3_64 rfl <| Runs.getI d3_65 w27 fS_2 <| Runs.iconst d3_68 ci_1 <| Runs.iadd d3_69 <| ?_
          refine Runs.iloadN d3_70 rfl <| Runs.isub d3_71 <| Runs.putI d3_72 w27 fS_2 (Or.inl w28) <| Runs.aloadN d3_75 rfl <| Runs.iconst d3_76 ci_0 <| Runs.putZ (y := (0 : Int32)) d3_77 w33 fS_7 (Or.inl w34) rfl <| Runs.aloadN d3_80 rfl <| ?_
          refine bind_el hf fun q8 hg9 hf => ?_
          obtain rfl := Option.some.inj hf
          exact Runs.callP (N := B2) (W := 0) (as := []) (S' := []) d3_81 w35 w36 w37 rfl cw2 ar2 rk3_2_0 (by decide) rfl rfl (X_resetResult_pay hg9) <| ans0 <| Runs.iconst d3_84 ci_0 <| Runs.retI d3_85 rfl ⟨by decide, by decide⟩ ⟨rfl, rfl⟩
      · refine Runs.icN d3_20 (flt hc3).1 <| ?_
        obtain rfl := Option.some.inj hf
        exact Runs.bipush d3_23 cb_m2 <| Runs.retI d3_25 rfl ⟨by decide, by decide⟩ ⟨rfl, rfl⟩
theorem X_pushToken_pay {C : Ctx} {top : Nat} {a : Nat} {H : List (Nat × Nat × Rec)} {res : Int32 × Rec} {ob : Rec} {i1 : Int32} (hf : X_pushToken ob i1 = some res) : Pays C B3 [.ref a, .int i1] (top, (a, 6, ob) :: H) (Ans (some (.int res.1)) (top, (a, 6, res.2) :: H)) :=
  Pays.of pnK (Nat.le_of_ble_eq_true rfl) (P := [vr a, vi i1, vn]) 1 rfl (X_pushToken_p ob i1 hf)
def X_length (ob : Rec) : Option (Int32) :=
  some (gI ob 1)
set_option maxRecDepth 65536 in
set_option maxHeartbeats 4000000 in
theorem X_length_p {C : Ctx} {top : Nat} {a : Nat} {H : List (Nat × Nat × Rec)} {ob : Rec} {res : Int32} (hf : X_length ob = some res) : Runs C B5 0 0 0 [vr a] [] (top, (a, 6, ob) :: H) (Ans (some (.int res)) (top, (a, 6, ob) :: H)) := by
  delta X_length at hf
  obtain rfl := Option.some.inj hf
  exact Runs.aloadN d5_0 rfl <| Runs.getI d5_1 w25 fS_1 <| Runs.retI d5_4 rfl ⟨by decide, by decide⟩ ⟨rfl, rfl⟩
theorem X_length_pay {C : Ctx} {top : Nat} {a : Nat} {H : List (Nat × Nat × Rec)} {ob : Rec} {res : Int32} (hf : X_length ob = some res) : Pays C B5 [.ref a] (top, (a, 6, ob) :: H) (Ans (some (.int res)) (top, (a, 6, ob) :: H)) :=
  Pays.of pnK (Nat.le_of_ble_eq_true rfl) (P := [vr a]) 0 rfl (X_length_p hf)
def X_depth (ob : Rec) : Option (Int32) :=
  some (gI ob 2)
set_option maxRecDepth 65536 in
set_option maxHeartbeats 4000000 in
theorem X_depth_p {C : Ctx} {top : Nat} {a : Nat} {H : List (Nat × Nat × Rec)} {ob : Rec} {res : Int32} (hf : X_depth ob = some res) : Runs C B6 0 0 0 [vr a] [] (top, (a, 6, ob) :: H) (Ans (some (.int res)) (top, (a, 6, ob) :: H)) := by
  delta X_depth at hf
  obtain rfl := Option.some.inj hf
  exact Runs.aloadN d6_0 rfl <| Runs.getI d6_1 w27 fS_2 <| Runs.retI d6_4 rfl ⟨by decide, by decide⟩ ⟨rfl, rfl⟩
theorem X_depth_pay {C : Ctx} {top : Nat} {a : Nat} {H : List (Nat × Nat × Rec)} {ob : Rec} {res : Int32} (hf : X_depth ob = some res) : Pays C B6 [.ref a] (top, (a, 6, ob) :: H) (Ans (some (.int res)) (top, (a, 6, ob) :: H)) :=
  Pays.of pnK (Nat.le_of_ble_eq_true rfl) (P := [vr a]) 0 rfl (X_depth_p hf)
def X_completeF (ob : Rec) : Option (Int32) :=
  if (gI ob 2) = (1 : Int32) then
    some (1 : Int32)
  else
    some (0 : Int32)
set_option maxRecDepth 65536 in
set_option maxHeartbeats 4000000 in
theorem X_completeF_p {C : Ctx} {top : Nat} {a : Nat} {H : List (Nat × Nat × Rec)} {ob : Rec} {res : Int32} (hf : X_completeF ob = some res) : Runs C B8 0 0 0 [vr a] [] (top, (a, 6, ob) :: H) (Ans (some (.int res)) (top, (a, 6, ob) :: H)) := by
  delta X_completeF at hf
  refine Runs.aloadN d8_0 rfl <| Runs.getI d8_1 w27 fS_2 <| Runs.iconst d8_4 ci_1 <| ?_
  refine ite_el hf (fun hc1 hf => ?_) (fun hc1 hf => ?_)
  · refine Runs.icN d8_5 (teq hc1).2 <| ?_
    obtain rfl := Option.some.inj hf
    exact Runs.iconst d8_8 ci_1 <| Runs.goto (pc' := 13) d8_9 (by decide) <| Runs.retZ (y := (1 : Int32)) d8_13 rfl ⟨by decide, by decide⟩ rfl ⟨rfl, rfl⟩
  · refine Runs.icY (pc' := 12) d8_5 (feq hc1).2 (by decide) <| ?_
    obtain rfl := Option.some.inj hf
    exact Runs.iconst d8_12 ci_0 <| Runs.retZ (y := (0 : Int32)) d8_13 rfl ⟨by decide, by decide⟩ rfl ⟨rfl, rfl⟩
theorem X_completeF_pay {C : Ctx} {top : Nat} {a : Nat} {H : List (Nat × Nat × Rec)} {ob : Rec} {res : Int32} (hf : X_completeF ob = some res) : Pays C B8 [.ref a] (top, (a, 6, ob) :: H) (Ans (some (.int res)) (top, (a, 6, ob) :: H)) :=
  Pays.of pnK (Nat.le_of_ble_eq_true rfl) (P := [vr a]) 0 rfl (X_completeF_p hf)
def X_varWord (ob : Rec) (i1 : Int32) (i2 : Int32) : Option (Int64) :=
  if i1 = (0 : Int32) then
    some (-6148914691236517206 : Int64)
  else
  if i1 = (1 : Int32) then
    some (-3689348814741910324 : Int64)
  else
  if i1 = (2 : Int32) then
    some (-1085102592571150096 : Int64)
  else
  if i1 = (3 : Int32) then
    some (-71777214294589696 : Int64)
  else
  if i1 = (4 : Int32) then
    some (-281470681808896 : Int64)
  else
  if i1 = (5 : Int32) then
    some (-4294967296 : Int64)
  else
  if i1 = (6 : Int32) then
    if (i2 &&& (1 : Int32)) = (0 : Int32) then
      some (0 : Int64)
    else
      some (-1 : Int64)
  else
    if (i2 &&& (2 : Int32)) = (0 : Int32) then
      some (0 : Int64)
    else
      some (-1 : Int64)
set_option maxRecDepth 65536 in
set_option maxHeartbeats 4000000 in
theorem X_varWord_p {C : Ctx} {top : Nat} {a : Nat} {H : List (Nat × Nat × Rec)} {ob : Rec} {res : Int64} (i1 : Int32) (i2 : Int32) (hf : X_varWord ob i1 i2 = some res) : Runs C B13 0 0 0 [vr a, vi i1, vi i2] [] (top, (a, 6, ob) :: H) (Ans (some (.long res)) (top, (a, 6, ob) :: H)) := by
  delta X_varWord at hf
  refine Runs.iloadN d13_0 rfl <| ?_
  refine ite_el hf (fun hc1 hf => ?_) (fun hc1 hf => ?_)
  · refine Runs.tswI (pc' := 44) d13_1 (by rw [hc1]; decide) (by rw [hc1]; rfl) (by decide) <| ?_
    obtain rfl := Option.some.inj hf
    exact Runs.ldc2 d13_44 w114 <| Runs.retJ d13_47 rfl ⟨by decide, by decide⟩ ⟨rfl, rfl⟩
  refine ite_el hf (fun hc2 hf => ?_) (fun hc2 hf => ?_)
  · refine Runs.tswI (pc' := 48) d13_1 (by rw [hc2]; decide) (by rw [hc2]; rfl) (by decide) <| ?_
    obtain rfl := Option.some.inj hf
    exact Runs.ldc2 d13_48 w111 <| Runs.retJ d13_51 rfl ⟨by decide, by decide⟩ ⟨rfl, rfl⟩
  refine ite_el hf (fun hc3 hf => ?_) (fun hc3 hf => ?_)
  · refine Runs.tswI (pc' := 52) d13_1 (by rw [hc3]; decide) (by rw [hc3]; rfl) (by decide) <| ?_
    obtain rfl := Option.some.inj hf
    exact Runs.ldc2 d13_52 w112 <| Runs.retJ d13_55 rfl ⟨by decide, by decide⟩ ⟨rfl, rfl⟩
  refine ite_el hf (fun hc4 hf => ?_) (fun hc4 hf => ?_)
  · refine Runs.tswI (pc' := 56) d13_1 (by rw [hc4]; decide) (by rw [hc4]; rfl) (by decide) <| ?_
    obtain rfl := Option.some.inj hf
    exact Runs.ldc2 d13_56 w91 <| Runs.retJ d13_59 rfl ⟨by decide, by decide⟩ ⟨rfl, rfl⟩
  refine ite_el hf (fun hc5 hf => ?_) (fun hc5 hf => ?_)
  · refine Runs.tswI (pc' := 60) d13_1 (by rw [hc5]; decide) (by rw [hc5]; rfl) (by decide) <| ?_
    obtain rfl := Option.some.inj hf
    exact Runs.ldc2 d13_60 w115 <| Runs.retJ d13_63 rfl ⟨by decide, by decide⟩ ⟨rfl, rfl⟩
  refine ite_el hf (fun hc6 hf => ?_) (fun hc6 hf => ?_)
  · refine Runs.tswI (pc' := 64) d13_1 (by rw [hc6]; decide) (by rw [hc6]; rfl) (by decide) <| ?_
    obtain rfl := Option.some.inj hf
    exact Runs.ldc2 d13_64 w110 <| Runs.retJ d13_67 rfl ⟨by decide, by decide⟩ ⟨rfl, rfl⟩
  refine ite_el hf (fun hc7 hf => ?_) (fun hc7 hf => ?_)
  · refine Runs.tswI (pc' := 68) d13_1 (by rw [hc7]; decide) (by rw [hc7]; rfl) (by decide) <| ?_
    refine Runs.iloadN d13_68 rfl <| Runs.iconst d13_69 ci_1 <| Runs.iand d13_70 <| ?_
    refine ite_el hf (fun hc8 hf => ?_) (fun hc8 hf => ?_)
    · refine Runs.ifY (pc' := 80) d13_71 (teq hc8).1 (by decide) <| ?_
      obtain rfl := Option.some.inj hf
      exact Runs.lconst d13_80 cl_0 <| Runs.retJ d13_81 rfl ⟨by decide, by decide⟩ ⟨rfl, rfl⟩
    · refine Runs.ifN d13_71 (feq hc8).1 <| ?_
      obtain rfl := Option.some.inj hf
      exact Runs.ldc2 d13_74 w113 <| Runs.goto (pc' := 81) d13_77 (by decide) <| Runs.retJ d13_81 rfl ⟨by decide, by decide⟩ ⟨rfl, rfl⟩
  refine Runs.tswO (pc' := 82) d13_1 (by have u0 : Int32.toInt i1 ≠ 0 := fun u => hc1 (Int32.toInt_inj.mp (u.trans (by decide))); have u1 : Int32.toInt i1 ≠ 1 := fun u => hc2 (Int32.toInt_inj.mp (u.trans (by decide))); have u2 : Int32.toInt i1 ≠ 2 := fun u => hc3 (Int32.toInt_inj.mp (u.trans (by decide))); have u3 : Int32.toInt i1 ≠ 3 := fun u => hc4 (Int32.toInt_inj.mp (u.trans (by decide))); have u4 : Int32.toInt i1 ≠ 4 := fun u => hc5 (Int32.toInt_inj.mp (u.trans (by decide))); have u5 : Int32.toInt i1 ≠ 5 := fun u => hc6 (Int32.toInt_inj.mp (u.trans (by decide))); have u6 : Int32.toInt i1 ≠ 6 := fun u => hc7 (Int32.toInt_inj.mp (u.trans (by decide))); omega) (by decide) <| ?_
  refine Runs.iloadN d13_82 rfl <| Runs.iconst d13_83 ci_2 <| Runs.iand d13_84 <| ?_
  refine ite_el hf (fun hc9 hf => ?_) (fun hc9 hf => ?_)
  · refine Runs.ifY (pc' := 94) d13_85 (teq hc9).1 (by decide) <| ?_
    obtain rfl := Option.some.inj hf
    exact Runs.lconst d13_94 cl_0 <| Runs.retJ d13_95 rfl ⟨by decide, by decide⟩ ⟨rfl, rfl⟩
  · refine Runs.ifN d13_85 (feq hc9).1 <| ?_
    obtain rfl := Option.some.inj hf
    exact Runs.ldc2 d13_88 w113 <| Runs.goto (pc' := 95) d13_91 (by decide) <| Runs.retJ d13_95 rfl ⟨by decide, by decide⟩ ⟨rfl, rfl⟩
theorem X_varWord_pay {C : Ctx} {top : Nat} {a : Nat} {H : List (Nat × Nat × Rec)} {ob : Rec} {res : Int64} {i1 : Int32} {i2 : Int32} (hf : X_varWord ob i1 i2 = some res) : Pays C B13 [.ref a, .int i1, .int i2] (top, (a, 6, ob) :: H) (Ans (some (.long res)) (top, (a, 6, ob) :: H)) :=
  Pays.of pnK (Nat.le_of_ble_eq_true rfl) (P := [vr a, vi i1, vi i2]) 0 rfl (X_varWord_p i1 i2 hf)
def X_leafWord (ob : Rec) (i1 : Int32) (i2 : Int32) : Option (Int64) :=
  if i1 = (8 : Int32) then
    some (0 : Int64)
  else
    if i1 = (9 : Int32) then
      some (-1 : Int64)
    else
      (X_varWord ob i1 i2).bind fun r3 =>
      some r3
set_option maxRecDepth 65536 in
set_option maxHeartbeats 4000000 in
theorem X_leafWord_p {C : Ctx} {top : Nat} {a : Nat} {H : List (Nat × Nat × Rec)} {ob : Rec} {res : Int64} (i1 : Int32) (i2 : Int32) (hf : X_leafWord ob i1 i2 = some res) : Runs C B12 0 0 0 [vr a, vi i1, vi i2] [] (top, (a, 6, ob) :: H) (Ans (some (.long res)) (top, (a, 6, ob) :: H)) := by
  delta X_leafWord at hf
  refine Runs.iloadN d12_0 rfl <| Runs.bipush d12_1 cb_8 <| ?_
  refine ite_el hf (fun hc1 hf => ?_) (fun hc1 hf => ?_)
  · refine Runs.icN d12_3 (teq hc1).2 <| ?_
    obtain rfl := Option.some.inj hf
    exact Runs.lconst d12_6 cl_0 <| Runs.retJ d12_7 rfl ⟨by decide, by decide⟩ ⟨rfl, rfl⟩
  · refine Runs.icY (pc' := 8) d12_3 (feq hc1).2 (by decide) <| ?_
    refine Runs.iloadN d12_8 rfl <| Runs.bipush d12_9 cb_9 <| ?_
    refine ite_el hf (fun hc2 hf => ?_) (fun hc2 hf => ?_)
    · refine Runs.icN d12_11 (teq hc2).2 <| ?_
      obtain rfl := Option.some.inj hf
      exact Runs.ldc2 d12_14 w113 <| Runs.retJ d12_17 rfl ⟨by decide, by decide⟩ ⟨rfl, rfl⟩
    · refine Runs.icY (pc' := 18) d12_11 (feq hc2).2 (by decide) <| ?_
      refine Runs.aloadN d12_18 rfl <| Runs.iloadN d12_19 rfl <| Runs.iloadN d12_20 rfl <| ?_
      refine bind_el hf fun r3 hg4 hf => ?_
      obtain rfl := Option.some.inj hf
      exact Runs.callP (N := B13) (W := 0) (as := [.int i1, .int i2]) (S' := []) d12_21 w87 w88 w89 rfl cw13 ar13 rk12_13_0 (by decide) rfl rfl (X_varWord_pay hg4) <| ans1 <| Runs.retJ d12_24 rfl ⟨by decide, by decide⟩ ⟨rfl, rfl⟩
theorem X_leafWord_pay {C : Ctx} {top : Nat} {a : Nat} {H : List (Nat × Nat × Rec)} {ob : Rec} {res : Int64} {i1 : Int32} {i2 : Int32} (hf : X_leafWord ob i1 i2 = some res) : Pays C B12 [.ref a, .int i1, .int i2] (top, (a, 6, ob) :: H) (Ans (some (.long res)) (top, (a, 6, ob) :: H)) :=
  Pays.of pnK (Nat.le_of_ble_eq_true rfl) (P := [vr a, vi i1, vi i2]) 0 rfl (X_leafWord_p i1 i2 hf)
def X_pushLeaf_w7 (NF : Nat) (k7 : Rec → Int32 → Int32 → Int32 → Option (Rec)) (ob : Rec) (i1 : Int32) (i3 : Int32) (i4 : Int32) : Option (Rec) :=
  if i4 < (4 : Int32) then
    (X_leafWord ob i1 i4).bind fun r2 =>
    chk (128 : Int32) (i3 + i4) <|
    k7 (sJ ob 2 (i3 + i4) r2) i1 i3 (i4 + (1 : Int32))
  else
    some ob
def X_pushLeaf_l7 (NF : Nat) : Nat → Rec → Int32 → Int32 → Int32 → Option (Rec)
  | 0, _, _, _, _ => none
  | n + 1, ob, i1, i3, i4 => X_pushLeaf_w7 NF (X_pushLeaf_l7 NF n) ob i1 i3 i4
set_option maxRecDepth 65536 in
set_option maxHeartbeats 4000000 in
theorem X_pushLeaf_w7_p {C : Ctx} {top : Nat} {a : Nat} {H : List (Nat × Nat × Rec)} {res : Rec} {NF : Nat} (k7 : Rec → Int32 → Int32 → Int32 → Option (Rec)) (hk7 : ∀ (ob : Rec) (i1 : Int32) (i3 : Int32) (i4 : Int32), k7 ob i1 i3 i4 = some res → Runs C B11 0 0 7 [vr a, vi i1, vn, vi i3, vi i4] [] (top, (a, 6, ob) :: H) (Ans none (top, (a, 6, res) :: H))) (ob : Rec) (i1 : Int32) (i3 : Int32) (i4 : Int32) (hf : X_pushLeaf_w7 NF k7 ob i1 i3 i4 = some res) : Runs C B11 0 0 7 [vr a, vi i1, vn, vi i3, vi i4] [] (top, (a, 6, ob) :: H) (Ans none (top, (a, 6, res) :: H)) := by
  delta X_pushLeaf_w7 at hf
  refine Runs.iload d11_7 rfl <| Runs.iconst d11_9 ci_4 <| ?_
  refine ite_el hf (fun hc1 hf => ?_) (fun hc1 hf => ?_)
  · refine Runs.icN d11_10 (tlt hc1).2.1 <| ?_
    refine Runs.aloadN d11_13 rfl <| Runs.getA d11_14 fA_2 w15 (by decide) <| Runs.iloadN d11_17 rfl <| Runs.iload d11_18 rfl <| Runs.iadd d11_20 <| Runs.aloadN d11_21 rfl <| Runs.iloadN d11_22 rfl <| Runs.iload d11_23 rfl <| ?_
    refine bind_el hf fun r2 hg3 hf => ?_
    refine Runs.callP (N := B12) (W := 2) (as := [.int i1, .int i4]) (S' := [.int (i3 + i4), .ref (a + 1 + 2)]) d11_25 w83 w84 w85 rfl cw12 ar12 rk11_12_2 (by decide) rfl rfl (X_leafWord_pay hg3) <| ans1 <| ?_
    refine chk_el hf fun hi4 hf => ?_
    exact Runs.lastoreA d11_28 fA_2 (by decide) hi4 <| Runs.iinc (P' := [vr a, vi i1, vn, vi i3, vi (i4 + (1 : Int32))]) d11_29 ci_1 rfl (by decide) rfl <| Runs.goto (pc' := 7) d11_32 (by decide) <| hk7 (sJ ob 2 (i3 + i4) r2) i1 i3 (i4 + (1 : Int32)) hf
  · refine Runs.icY (pc' := 35) d11_10 (flt hc1).2.1 (by decide) <| ?_
    obtain rfl := Option.some.inj hf
    exact Runs.retV d11_35 rfl ⟨by decide, by decide⟩ ⟨rfl, rfl⟩
theorem X_pushLeaf_l7_p {C : Ctx} {top : Nat} {a : Nat} {H : List (Nat × Nat × Rec)} {res : Rec} {NF : Nat} (n : Nat) (ob : Rec) (i1 : Int32) (i3 : Int32) (i4 : Int32) (hf : X_pushLeaf_l7 NF n ob i1 i3 i4 = some res) : Runs C B11 0 0 7 [vr a, vi i1, vn, vi i3, vi i4] [] (top, (a, 6, ob) :: H) (Ans none (top, (a, 6, res) :: H)) := by
  induction n generalizing ob i1 i3 i4 with
  | zero => cases (show (none : Option (Rec)) = some res from hf)
  | succ n ih => exact X_pushLeaf_w7_p (X_pushLeaf_l7 NF n) (fun ob i1 i3 i4 h => ih _ _ _ _ h) ob i1 i3 i4 hf
def X_pushLeaf (NF : Nat) (ob : Rec) (i1 : Int32) (i2 : Int32) : Option (Rec) :=
  X_pushLeaf_l7 NF NF ob i1 (i2 * (4 : Int32)) (0 : Int32)
set_option maxRecDepth 65536 in
set_option maxHeartbeats 4000000 in
theorem X_pushLeaf_p {C : Ctx} {top : Nat} {a : Nat} {H : List (Nat × Nat × Rec)} {res : Rec} {NF : Nat} (ob : Rec) (i1 : Int32) (i2 : Int32) (hf : X_pushLeaf NF ob i1 i2 = some res) : Runs C B11 0 0 0 [vr a, vi i1, vi i2, vn, vn] [] (top, (a, 6, ob) :: H) (Ans none (top, (a, 6, res) :: H)) := by
  delta X_pushLeaf at hf
  exact Runs.iloadN d11_0 rfl <| Runs.iconst d11_1 ci_4 <| Runs.imul d11_2 <| Runs.istoreN (P' := [vr a, vi i1, vi i2, vi (i2 * (4 : Int32)), vn]) d11_3 (by decide) rfl <| Runs.iconst d11_4 ci_0 <| Runs.istore (P' := [vr a, vi i1, vi i2, vi (i2 * (4 : Int32)), vi (0 : Int32)]) d11_5 (by decide) rfl <| Runs.forget [true, true, false, true, true] rfl <| X_pushLeaf_l7_p NF ob i1 (i2 * (4 : Int32)) (0 : Int32) hf
theorem X_pushLeaf_pay {C : Ctx} {top : Nat} {a : Nat} {H : List (Nat × Nat × Rec)} {res : Rec} {NF : Nat} {ob : Rec} {i1 : Int32} {i2 : Int32} (hf : X_pushLeaf NF ob i1 i2 = some res) : Pays C B11 [.ref a, .int i1, .int i2] (top, (a, 6, ob) :: H) (Ans none (top, (a, 6, res) :: H)) :=
  Pays.of pnK (Nat.le_of_ble_eq_true rfl) (P := [vr a, vi i1, vi i2, vn, vn]) 2 rfl (X_pushLeaf_p ob i1 i2 hf)
def X_step (NF : Nat) (ob : Rec) (i1 : Int32) (i2 : Int32) : Option (Int32 × Rec) :=
  (X_arity ob i1).bind fun r1 =>
  if i2 < r1 then
    some (i2, ob)
  else
    if (32 : Int32) < i2 then
      some (i2, ob)
    else
      if r1 = (0 : Int32) then
        if i2 < (32 : Int32) then
          (X_pushLeaf NF ob i1 i2).bind fun q7 =>
          some ((i2 + (1 : Int32)), q7)
        else
          some (i2, ob)
      else
        if r1 = (1 : Int32) then
          none
        else
          none
set_option maxRecDepth 65536 in
set_option maxHeartbeats 4000000 in
theorem X_step_p {C : Ctx} {top : Nat} {a : Nat} {H : List (Nat × Nat × Rec)} {res : Int32 × Rec} {NF : Nat} (ob : Rec) (i1 : Int32) (i2 : Int32) (hf : X_step NF ob i1 i2 = some res) : Runs C B10 0 0 0 [vr a, vi i1, vi i2, vn] [] (top, (a, 6, ob) :: H) (Ans (some (.int res.1)) (top, (a, 6, res.2) :: H)) := by
  delta X_step at hf
  refine Runs.aloadN d10_0 rfl <| Runs.iloadN d10_1 rfl <| ?_
  refine bind_el hf fun r1 hg2 hf => ?_
  refine Runs.callP (N := B4) (W := 0) (as := [.int i1]) (S' := []) d10_2 w48 w49 w50 rfl cw4 ar4 rk10_4_0 (by decide) rfl rfl (X_arity_pay hg2) <| ans1 <| Runs.istoreN (P' := [vr a, vi i1, vi i2, vi r1]) d10_5 (by decide) rfl <| Runs.iloadN d10_6 rfl <| Runs.iloadN d10_7 rfl <| ?_
  refine ite_el hf (fun hc3 hf => ?_) (fun hc3 hf => ?_)
  · refine Runs.icY (pc' := 17) d10_8 (tlt hc3).2.2.1 (by decide) <| ?_
    obtain rfl := Option.some.inj hf
    exact Runs.iloadN d10_17 rfl <| Runs.retI d10_18 rfl ⟨by decide, by decide⟩ ⟨rfl, rfl⟩
  · refine Runs.icN d10_8 (flt hc3).2.2.1 <| ?_
    refine Runs.iloadN d10_11 rfl <| Runs.bipush d10_12 cb_32 <| ?_
    refine ite_el hf (fun hc4 hf => ?_) (fun hc4 hf => ?_)
    · refine Runs.icN d10_14 (tlt hc4).2.2.2 <| ?_
      obtain rfl := Option.some.inj hf
      exact Runs.iloadN d10_17 rfl <| Runs.retI d10_18 rfl ⟨by decide, by decide⟩ ⟨rfl, rfl⟩
    · refine Runs.icY (pc' := 19) d10_14 (flt hc4).2.2.2 (by decide) <| ?_
      refine Runs.iloadN d10_19 rfl <| ?_
      refine ite_el hf (fun hc5 hf => ?_) (fun hc5 hf => ?_)
      · refine Runs.ifN d10_20 (teq hc5).2 <| ?_
        refine Runs.iloadN d10_23 rfl <| Runs.bipush d10_24 cb_32 <| ?_
        refine ite_el hf (fun hc6 hf => ?_) (fun hc6 hf => ?_)
        · refine Runs.icY (pc' := 31) d10_26 (tlt hc6).1 (by decide) <| ?_
          refine Runs.aloadN d10_31 rfl <| Runs.iloadN d10_32 rfl <| Runs.iloadN d10_33 rfl <| ?_
          refine bind_el hf fun q7 hg8 hf => ?_
          obtain rfl := Option.some.inj hf
          exact Runs.callP (N := B11) (W := 0) (as := [.int i1, .int i2]) (S' := []) d10_34 w79 w80 w81 rfl cw11 ar11 rk10_11_0 (by decide) rfl rfl (X_pushLeaf_pay hg8) <| ans0 <| Runs.iloadN d10_37 rfl <| Runs.iconst d10_38 ci_1 <| Runs.iadd d10_39 <| Runs.retI d10_40 rfl ⟨by decide, by decide⟩ ⟨rfl, rfl⟩
        · refine Runs.icN d10_26 (flt hc6).1 <| ?_
          obtain rfl := Option.some.inj hf
          exact Runs.iloadN d10_29 rfl <| Runs.retI d10_30 rfl ⟨by decide, by decide⟩ ⟨rfl, rfl⟩
      · refine Runs.ifY (pc' := 41) d10_20 (feq hc5).2 (by decide) <| ?_
        refine Runs.iloadN d10_41 rfl <| Runs.iconst d10_42 ci_1 <| ?_
        refine ite_el hf (fun hc9 hf => ?_) (fun hc9 hf => ?_)
        · refine Runs.icN d10_43 (teq hc9).2 <| ?_
          cases hf
        · refine Runs.icY (pc' := 55) d10_43 (feq hc9).2 (by decide) <| ?_
          cases hf
theorem X_step_pay {C : Ctx} {top : Nat} {a : Nat} {H : List (Nat × Nat × Rec)} {res : Int32 × Rec} {NF : Nat} {ob : Rec} {i1 : Int32} {i2 : Int32} (hf : X_step NF ob i1 i2 = some res) : Pays C B10 [.ref a, .int i1, .int i2] (top, (a, 6, ob) :: H) (Ans (some (.int res.1)) (top, (a, 6, res.2) :: H)) :=
  Pays.of pnK (Nat.le_of_ble_eq_true rfl) (P := [vr a, vi i1, vi i2, vn]) 1 rfl (X_step_p ob i1 i2 hf)
def X_storeTopIntoF_w2 (NF : Nat) (k2 : Rec → Int32 → Int32 → Option (Rec)) (ob : Rec) (i1 : Int32) (i2 : Int32) : Option (Rec) :=
  if i2 < (4 : Int32) then
    if i1 < (1 : Int32) then
      chk (4 : Int32) i2 <|
      k2 (sJ ob 3 i2 (0 : Int64)) i1 (i2 + (1 : Int32))
    else
      if (32 : Int32) < i1 then
        chk (4 : Int32) i2 <|
        k2 (sJ ob 3 i2 (0 : Int64)) i1 (i2 + (1 : Int32))
      else
        chk (128 : Int32) (((i1 - (1 : Int32)) * (4 : Int32)) + i2) <|
        chk (4 : Int32) i2 <|
        k2 (sJ ob 3 i2 (gJ ob 2 (((i1 - (1 : Int32)) * (4 : Int32)) + i2))) i1 (i2 + (1 : Int32))
  else
    some ob
def X_storeTopIntoF_l2 (NF : Nat) : Nat → Rec → Int32 → Int32 → Option (Rec)
  | 0, _, _, _ => none
  | n + 1, ob, i1, i2 => X_storeTopIntoF_w2 NF (X_storeTopIntoF_l2 NF n) ob i1 i2
set_option maxRecDepth 65536 in
set_option maxHeartbeats 4000000 in
theorem X_storeTopIntoF_w2_p {C : Ctx} {top : Nat} {a : Nat} {H : List (Nat × Nat × Rec)} {res : Rec} {NF : Nat} (k2 : Rec → Int32 → Int32 → Option (Rec)) (hk2 : ∀ (ob : Rec) (i1 : Int32) (i2 : Int32), k2 ob i1 i2 = some res → Runs C B14 0 0 2 [vr a, vi i1, vi i2, vn, vn] [] (top, (a, 6, ob) :: H) (Ans none (top, (a, 6, res) :: H))) (ob : Rec) (i1 : Int32) (i2 : Int32) (hf : X_storeTopIntoF_w2 NF k2 ob i1 i2 = some res) : Runs C B14 0 0 2 [vr a, vi i1, vi i2, vn, vn] [] (top, (a, 6, ob) :: H) (Ans none (top, (a, 6, res) :: H)) := by
  delta X_storeTopIntoF_w2 at hf
  refine Runs.iloadN d14_2 rfl <| Runs.iconst d14_3 ci_4 <| ?_
  refine ite_el hf (fun hc1 hf => ?_) (fun hc1 hf => ?_)
  · refine Runs.icN d14_4 (tlt hc1).2.1 <| ?_
    refine Runs.lconst d14_7 cl_0 <| Runs.lstoreN (P' := [vr a, vi i1, vi i2, vl (0 : Int64), v2]) d14_8 (by decide) rfl <| Runs.iloadN d14_9 rfl <| Runs.iconst d14_10 ci_1 <| ?_
    refine ite_el hf (fun hc2 hf => ?_) (fun hc2 hf => ?_)
    · refine Runs.icY (pc' := 33) d14_11 (tlt hc2).1 (by decide) <| ?_
      refine Runs.aloadN d14_33 rfl <| Runs.getA d14_34 fA_3 w17 (by decide) <| Runs.iloadN d14_37 rfl <| Runs.lloadN d14_38 rfl <| ?_
      refine chk_el hf fun hi3 hf => ?_
      exact Runs.lastoreA d14_39 fA_3 (by decide) hi3 <| Runs.iinc (P' := [vr a, vi i1, vi (i2 + (1 : Int32)), vl (0 : Int64), v2]) d14_40 ci_1 rfl (by decide) rfl <| Runs.goto (pc' := 2) d14_43 (by decide) <| Runs.forget [true, true, true, false, false] rfl <| hk2 (sJ ob 3 i2 (0 : Int64)) i1 (i2 + (1 : Int32)) hf
    · refine Runs.icN d14_11 (flt hc2).1 <| ?_
      refine Runs.iloadN d14_14 rfl <| Runs.bipush d14_15 cb_32 <| ?_
      refine ite_el hf (fun hc4 hf => ?_) (fun hc4 hf => ?_)
      · refine Runs.icY (pc' := 33) d14_17 (tlt hc4).2.2.1 (by decide) <| ?_
        refine Runs.aloadN d14_33 rfl <| Runs.getA d14_34 fA_3 w17 (by decide) <| Runs.iloadN d14_37 rfl <| Runs.lloadN d14_38 rfl <| ?_
        refine chk_el hf fun hi5 hf => ?_
        exact Runs.lastoreA d14_39 fA_3 (by decide) hi5 <| Runs.iinc (P' := [vr a, vi i1, vi (i2 + (1 : Int32)), vl (0 : Int64), v2]) d14_40 ci_1 rfl (by decide) rfl <| Runs.goto (pc' := 2) d14_43 (by decide) <| Runs.forget [true, true, true, false, false] rfl <| hk2 (sJ ob 3 i2 (0 : Int64)) i1 (i2 + (1 : Int32)) hf
      · refine Runs.icN d14_17 (flt hc4).2.2.1 <| ?_
        refine Runs.aloadN d14_20 rfl <| Runs.getA d14_21 fA_2 w15 (by decide) <| Runs.iloadN d14_24 rfl <| Runs.iconst d14_25 ci_1 <| Runs.isub d14_26 <| Runs.iconst d14_27 ci_4 <| Runs.imul d14_28 <| Runs.iloadN d14_29 rfl <| Runs.iadd d14_30 <| ?_
        refine chk_el hf fun hi6 hf => ?_
        refine Runs.laloadA d14_31 fA_2 (by decide) hi6 <| Runs.lstoreN (P' := [vr a, vi i1, vi i2, vl (gJ ob 2 (((i1 - (1 : Int32)) * (4 : Int32)) + i2)), v2]) d14_32 (by decide) rfl <| Runs.aloadN d14_33 rfl <| Runs.getA d14_34 fA_3 w17 (by decide) <| Runs.iloadN d14_37 rfl <| Runs.lloadN d14_38 rfl <| ?_
        refine chk_el hf fun hi7 hf => ?_
        exact Runs.lastoreA d14_39 fA_3 (by decide) hi7 <| Runs.iinc (P' := [vr a, vi i1, vi (i2 + (1 : Int32)), vl (gJ ob 2 (((i1 - (1 : Int32)) * (4 : Int32)) + i2)), v2]) d14_40 ci_1 rfl (by decide) rfl <| Runs.goto (pc' := 2) d14_43 (by decide) <| Runs.forget [true, true, true, false, false] rfl <| hk2 (sJ ob 3 i2 (gJ ob 2 (((i1 - (1 : Int32)) * (4 : Int32)) + i2))) i1 (i2 + (1 : Int32)) hf
  · refine Runs.icY (pc' := 46) d14_4 (flt hc1).2.1 (by decide) <| ?_
    obtain rfl := Option.some.inj hf
    exact Runs.retV d14_46 rfl ⟨by decide, by decide⟩ ⟨rfl, rfl⟩
theorem X_storeTopIntoF_l2_p {C : Ctx} {top : Nat} {a : Nat} {H : List (Nat × Nat × Rec)} {res : Rec} {NF : Nat} (n : Nat) (ob : Rec) (i1 : Int32) (i2 : Int32) (hf : X_storeTopIntoF_l2 NF n ob i1 i2 = some res) : Runs C B14 0 0 2 [vr a, vi i1, vi i2, vn, vn] [] (top, (a, 6, ob) :: H) (Ans none (top, (a, 6, res) :: H)) := by
  induction n generalizing ob i1 i2 with
  | zero => cases (show (none : Option (Rec)) = some res from hf)
  | succ n ih => exact X_storeTopIntoF_w2_p (X_storeTopIntoF_l2 NF n) (fun ob i1 i2 h => ih _ _ _ h) ob i1 i2 hf
def X_storeTopIntoF (NF : Nat) (ob : Rec) (i1 : Int32) : Option (Rec) :=
  X_storeTopIntoF_l2 NF NF ob i1 (0 : Int32)
set_option maxRecDepth 65536 in
set_option maxHeartbeats 4000000 in
theorem X_storeTopIntoF_p {C : Ctx} {top : Nat} {a : Nat} {H : List (Nat × Nat × Rec)} {res : Rec} {NF : Nat} (ob : Rec) (i1 : Int32) (hf : X_storeTopIntoF NF ob i1 = some res) : Runs C B14 0 0 0 [vr a, vi i1, vn, vn, vn] [] (top, (a, 6, ob) :: H) (Ans none (top, (a, 6, res) :: H)) := by
  delta X_storeTopIntoF at hf
  exact Runs.iconst d14_0 ci_0 <| Runs.istoreN (P' := [vr a, vi i1, vi (0 : Int32), vn, vn]) d14_1 (by decide) rfl <| X_storeTopIntoF_l2_p NF ob i1 (0 : Int32) hf
theorem X_storeTopIntoF_pay {C : Ctx} {top : Nat} {a : Nat} {H : List (Nat × Nat × Rec)} {res : Rec} {NF : Nat} {ob : Rec} {i1 : Int32} (hf : X_storeTopIntoF NF ob i1 = some res) : Pays C B14 [.ref a, .int i1] (top, (a, 6, ob) :: H) (Ans none (top, (a, 6, res) :: H)) :=
  Pays.of pnK (Nat.le_of_ble_eq_true rfl) (P := [vr a, vi i1, vn, vn, vn]) 3 rfl (X_storeTopIntoF_p ob i1 hf)
def X_ensureTableF_w26 (NF : Nat) (k26 : Rec → Int32 → Int32 → Int32 → Option (Rec)) (ob : Rec) (i1 : Int32) (i2 : Int32) (i3 : Int32) : Option (Rec) :=
  if i3 < i1 then
    chk (32 : Int32) i3 <|
    bind2 (X_step NF ob (gA ob 0 i3) i2) fun r3 q4 =>
    k26 q4 i1 r3 (i3 + (1 : Int32))
  else
    (X_storeTopIntoF NF ob i2).bind fun q6 =>
    some (sI q6 7 (1 : Int32))
def X_ensureTableF_l26 (NF : Nat) : Nat → Rec → Int32 → Int32 → Int32 → Option (Rec)
  | 0, _, _, _, _ => none
  | n + 1, ob, i1, i2, i3 => X_ensureTableF_w26 NF (X_ensureTableF_l26 NF n) ob i1 i2 i3
set_option maxRecDepth 65536 in
set_option maxHeartbeats 4000000 in
theorem X_ensureTableF_w26_p {C : Ctx} {top : Nat} {a : Nat} {H : List (Nat × Nat × Rec)} {res : Rec} {NF : Nat} (k26 : Rec → Int32 → Int32 → Int32 → Option (Rec)) (hk26 : ∀ (ob : Rec) (i1 : Int32) (i2 : Int32) (i3 : Int32), k26 ob i1 i2 i3 = some res → Runs C B9 0 0 26 [vr a, vi i1, vi i2, vi i3] [] (top, (a, 6, ob) :: H) (Ans none (top, (a, 6, res) :: H))) (ob : Rec) (i1 : Int32) (i2 : Int32) (i3 : Int32) (hf : X_ensureTableF_w26 NF k26 ob i1 i2 i3 = some res) : Runs C B9 0 0 26 [vr a, vi i1, vi i2, vi i3] [] (top, (a, 6, ob) :: H) (Ans none (top, (a, 6, res) :: H)) := by
  delta X_ensureTableF_w26 at hf
  refine Runs.iloadN d9_26 rfl <| Runs.iloadN d9_27 rfl <| ?_
  refine ite_el hf (fun hc1 hf => ?_) (fun hc1 hf => ?_)
  · refine Runs.icN d9_28 (tlt hc1).2.1 <| ?_
    refine Runs.aloadN d9_31 rfl <| Runs.aloadN d9_32 rfl <| Runs.getA d9_33 fA_0 w10 (by decide) <| Runs.iloadN d9_36 rfl <| ?_
    refine chk_el hf fun hi2 hf => ?_
    refine Runs.ialoadA d9_37 fA_0 (by decide) hi2 <| Runs.iloadN d9_38 rfl <| ?_
    refine bind2_el hf fun r3 q4 hg5 hf => ?_
    exact Runs.callP (N := B10) (W := 0) (as := [.int (gA ob 0 i3), .int i2]) (S' := []) d9_39 w75 w76 w77 rfl cw10 ar10 rk9_10_0 (by decide) rfl rfl (X_step_pay hg5) <| ans1 <| Runs.istoreN (P' := [vr a, vi i1, vi r3, vi i3]) d9_42 (by decide) rfl <| Runs.iinc (P' := [vr a, vi i1, vi r3, vi (i3 + (1 : Int32))]) d9_43 ci_1 rfl (by decide) rfl <| Runs.goto (pc' := 26) d9_46 (by decide) <| hk26 q4 i1 r3 (i3 + (1 : Int32)) hf
  · refine Runs.icY (pc' := 49) d9_28 (flt hc1).2.1 (by decide) <| ?_
    refine Runs.aloadN d9_49 rfl <| Runs.iloadN d9_50 rfl <| ?_
    refine bind_el hf fun q6 hg7 hf => ?_
    obtain rfl := Option.some.inj hf
    exact Runs.callP (N := B14) (W := 0) (as := [.int i2]) (S' := []) d9_51 w92 w93 w94 rfl cw14 ar14 rk9_14_0 (by decide) rfl rfl (X_storeTopIntoF_pay hg7) <| ans0 <| Runs.aloadN d9_54 rfl <| Runs.iconst d9_55 ci_1 <| Runs.putZ (y := (1 : Int32)) d9_56 w33 fS_7 (Or.inl w34) rfl <| Runs.retV d9_59 rfl ⟨by decide, by decide⟩ ⟨rfl, rfl⟩
theorem X_ensureTableF_l26_p {C : Ctx} {top : Nat} {a : Nat} {H : List (Nat × Nat × Rec)} {res : Rec} {NF : Nat} (n : Nat) (ob : Rec) (i1 : Int32) (i2 : Int32) (i3 : Int32) (hf : X_ensureTableF_l26 NF n ob i1 i2 i3 = some res) : Runs C B9 0 0 26 [vr a, vi i1, vi i2, vi i3] [] (top, (a, 6, ob) :: H) (Ans none (top, (a, 6, res) :: H)) := by
  induction n generalizing ob i1 i2 i3 with
  | zero => cases (show (none : Option (Rec)) = some res from hf)
  | succ n ih => exact X_ensureTableF_w26_p (X_ensureTableF_l26 NF n) (fun ob i1 i2 i3 h => ih _ _ _ _ h) ob i1 i2 i3 hf
def X_ensureTableF (NF : Nat) (ob : Rec) : Option (Rec) :=
  if (gI ob 7) = (0 : Int32) then
    if (32 : Int32) < (gI ob 1) then
      X_ensureTableF_l26 NF NF ob (32 : Int32) (0 : Int32) (0 : Int32)
    else
      X_ensureTableF_l26 NF NF ob (gI ob 1) (0 : Int32) (0 : Int32)
  else
    some ob
set_option maxRecDepth 65536 in
set_option maxHeartbeats 4000000 in
theorem X_ensureTableF_p {C : Ctx} {top : Nat} {a : Nat} {H : List (Nat × Nat × Rec)} {res : Rec} {NF : Nat} (ob : Rec) (hf : X_ensureTableF NF ob = some res) : Runs C B9 0 0 0 [vr a, vn, vn, vn] [] (top, (a, 6, ob) :: H) (Ans none (top, (a, 6, res) :: H)) := by
  delta X_ensureTableF at hf
  refine Runs.aloadN d9_0 rfl <| Runs.getI d9_1 w33 fS_7 <| ?_
  refine ite_el hf (fun hc8 hf => ?_) (fun hc8 hf => ?_)
  · refine Runs.ifY (pc' := 8) d9_4 (teq hc8).1 (by decide) <| ?_
    refine Runs.aloadN d9_8 rfl <| Runs.getI d9_9 w25 fS_1 <| Runs.istoreN (P' := [vr a, vi (gI ob 1), vn, vn]) d9_12 (by decide) rfl <| Runs.iloadN d9_13 rfl <| Runs.bipush d9_14 cb_32 <| ?_
    refine ite_el hf (fun hc9 hf => ?_) (fun hc9 hf => ?_)
    · refine Runs.icN d9_16 (tlt hc9).2.2.2 <| ?_
      exact Runs.bipush d9_19 cb_32 <| Runs.istoreN (P' := [vr a, vi (32 : Int32), vn, vn]) d9_21 (by decide) rfl <| Runs.iconst d9_22 ci_0 <| Runs.istoreN (P' := [vr a, vi (32 : Int32), vi (0 : Int32), vn]) d9_23 (by decide) rfl <| Runs.iconst d9_24 ci_0 <| Runs.istoreN (P' := [vr a, vi (32 : Int32), vi (0 : Int32), vi (0 : Int32)]) d9_25 (by decide) rfl <| X_ensureTableF_l26_p NF ob (32 : Int32) (0 : Int32) (0 : Int32) hf
    · refine Runs.icY (pc' := 22) d9_16 (flt hc9).2.2.2 (by decide) <| ?_
      exact Runs.iconst d9_22 ci_0 <| Runs.istoreN (P' := [vr a, vi (gI ob 1), vi (0 : Int32), vn]) d9_23 (by decide) rfl <| Runs.iconst d9_24 ci_0 <| Runs.istoreN (P' := [vr a, vi (gI ob 1), vi (0 : Int32), vi (0 : Int32)]) d9_25 (by decide) rfl <| X_ensureTableF_l26_p NF ob (gI ob 1) (0 : Int32) (0 : Int32) hf
  · refine Runs.ifN d9_4 (feq hc8).1 <| ?_
    obtain rfl := Option.some.inj hf
    exact Runs.retV d9_7 rfl ⟨by decide, by decide⟩ ⟨rfl, rfl⟩
theorem X_ensureTableF_pay {C : Ctx} {top : Nat} {a : Nat} {H : List (Nat × Nat × Rec)} {res : Rec} {NF : Nat} {ob : Rec} (hf : X_ensureTableF NF ob = some res) : Pays C B9 [.ref a] (top, (a, 6, ob) :: H) (Ans none (top, (a, 6, res) :: H)) :=
  Pays.of pnK (Nat.le_of_ble_eq_true rfl) (P := [vr a, vn, vn, vn]) 3 rfl (X_ensureTableF_p ob hf)
def X_bitOfF (ob : Rec) (i1 : Int32) : Option (Int32) :=
  chk (4 : Int32) ((i1 >>> ((6 : Int32) &&& 31)) &&& (3 : Int32)) <|
  some ((((gJ ob 3 ((i1 >>> ((6 : Int32) &&& 31)) &&& (3 : Int32))).toUInt64 >>> ((i1 &&& (63 : Int32)) &&& 0x3f).toInt64.toUInt64).toInt64) &&& (1 : Int64)).toInt32
set_option maxRecDepth 65536 in
set_option maxHeartbeats 4000000 in
theorem X_bitOfF_p {C : Ctx} {top : Nat} {a : Nat} {H : List (Nat × Nat × Rec)} {ob : Rec} {res : Int32} (i1 : Int32) (hf : X_bitOfF ob i1 = some res) : Runs C B15 0 0 0 [vr a, vi i1, vn, vn, vn] [] (top, (a, 6, ob) :: H) (Ans (some (.int res)) (top, (a, 6, ob) :: H)) := by
  delta X_bitOfF at hf
  refine Runs.iloadN d15_0 rfl <| Runs.bipush d15_1 cb_6 <| Runs.ishr d15_3 <| Runs.iconst d15_4 ci_3 <| Runs.iand d15_5 <| Runs.istoreN (P' := [vr a, vi i1, vi ((i1 >>> ((6 : Int32) &&& 31)) &&& (3 : Int32)), vn, vn]) d15_6 (by decide) rfl <| Runs.aloadN d15_7 rfl <| Runs.getA d15_8 fA_3 w17 (by decide) <| Runs.iloadN d15_11 rfl <| ?_
  refine chk_el hf fun hi1 hf => ?_
  obtain rfl := Option.some.inj hf
  exact Runs.laloadA d15_12 fA_3 (by decide) hi1 <| Runs.lstoreN (P' := [vr a, vi i1, vi ((i1 >>> ((6 : Int32) &&& 31)) &&& (3 : Int32)), vl (gJ ob 3 ((i1 >>> ((6 : Int32) &&& 31)) &&& (3 : Int32))), v2]) d15_13 (by decide) rfl <| Runs.lloadN d15_14 rfl <| Runs.iloadN d15_15 rfl <| Runs.bipush d15_16 cb_63 <| Runs.iand d15_18 <| Runs.lushr d15_19 <| Runs.lconst d15_20 cl_1 <| Runs.land d15_21 <| Runs.l2i d15_22 <| Runs.retI d15_23 rfl ⟨by decide, by decide⟩ ⟨rfl, rfl⟩
theorem X_bitOfF_pay {C : Ctx} {top : Nat} {a : Nat} {H : List (Nat × Nat × Rec)} {ob : Rec} {res : Int32} {i1 : Int32} (hf : X_bitOfF ob i1 = some res) : Pays C B15 [.ref a, .int i1] (top, (a, 6, ob) :: H) (Ans (some (.int res)) (top, (a, 6, ob) :: H)) :=
  Pays.of pnK (Nat.le_of_ble_eq_true rfl) (P := [vr a, vi i1, vn, vn, vn]) 3 rfl (X_bitOfF_p i1 hf)
def X_evaluate (NF : Nat) (ob : Rec) (i1 : Int32) : Option (Int32 × Rec) :=
  if i1 < (0 : Int32) then
    some ((-1 : Int32), ob)
  else
    if (255 : Int32) < i1 then
      some ((-1 : Int32), ob)
    else
      (X_completeF ob).bind fun r3 =>
      if r3 = (0 : Int32) then
        some ((-5 : Int32), ob)
      else
        (X_ensureTableF NF ob).bind fun q6 =>
        (X_bitOfF q6 i1).bind fun r8 =>
        some (r8, q6)
set_option maxRecDepth 65536 in
set_option maxHeartbeats 4000000 in
theorem X_evaluate_p {C : Ctx} {top : Nat} {a : Nat} {H : List (Nat × Nat × Rec)} {res : Int32 × Rec} {NF : Nat} (ob : Rec) (i1 : Int32) (hf : X_evaluate NF ob i1 = some res) : Runs C B7 0 0 0 [vr a, vi i1] [] (top, (a, 6, ob) :: H) (Ans (some (.int res.1)) (top, (a, 6, res.2) :: H)) := by
  delta X_evaluate at hf
  refine Runs.iloadN d7_0 rfl <| ?_
  refine ite_el hf (fun hc1 hf => ?_) (fun hc1 hf => ?_)
  · refine Runs.ifY (pc' := 11) d7_1 (tlt hc1).1 (by decide) <| ?_
    obtain rfl := Option.some.inj hf
    exact Runs.iconst d7_11 ci_m1 <| Runs.retI d7_12 rfl ⟨by decide, by decide⟩ ⟨rfl, rfl⟩
  · refine Runs.ifN d7_1 (flt hc1).1 <| ?_
    refine Runs.iloadN d7_4 rfl <| Runs.sipush d7_5 cs_255 <| ?_
    refine ite_el hf (fun hc2 hf => ?_) (fun hc2 hf => ?_)
    · refine Runs.icN d7_8 (tlt hc2).2.2.2 <| ?_
      obtain rfl := Option.some.inj hf
      exact Runs.iconst d7_11 ci_m1 <| Runs.retI d7_12 rfl ⟨by decide, by decide⟩ ⟨rfl, rfl⟩
    · refine Runs.icY (pc' := 13) d7_8 (flt hc2).2.2.2 (by decide) <| ?_
      refine Runs.aloadN d7_13 rfl <| ?_
      refine bind_el hf fun r3 hg4 hf => ?_
      refine Runs.callP (N := B8) (W := 0) (as := []) (S' := []) d7_14 w67 w68 w69 rfl cw8 ar8 rk7_8_0 (by decide) rfl rfl (X_completeF_pay hg4) <| ans1 <| ?_
      refine ite_el hf (fun hc5 hf => ?_) (fun hc5 hf => ?_)
      · refine Runs.ifN d7_17 (teq hc5).2 <| ?_
        obtain rfl := Option.some.inj hf
        exact Runs.bipush d7_20 cb_m5 <| Runs.retI d7_22 rfl ⟨by decide, by decide⟩ ⟨rfl, rfl⟩
      · refine Runs.ifY (pc' := 23) d7_17 (feq hc5).2 (by decide) <| ?_
        refine Runs.aloadN d7_23 rfl <| ?_
        refine bind_el hf fun q6 hg7 hf => ?_
        refine Runs.callP (N := B9) (W := 0) (as := []) (S' := []) d7_24 w71 w72 w73 rfl cw9 ar9 rk7_9_0 (by decide) rfl rfl (X_ensureTableF_pay hg7) <| ans0 <| Runs.aloadN d7_27 rfl <| Runs.iloadN d7_28 rfl <| ?_
        refine bind_el hf fun r8 hg9 hf => ?_
        obtain rfl := Option.some.inj hf
        exact Runs.callP (N := B15) (W := 0) (as := [.int i1]) (S' := []) d7_29 w96 w97 w98 rfl cw15 ar15 rk7_15_0 (by decide) rfl rfl (X_bitOfF_pay hg9) <| ans1 <| Runs.retI d7_32 rfl ⟨by decide, by decide⟩ ⟨rfl, rfl⟩
theorem X_evaluate_pay {C : Ctx} {top : Nat} {a : Nat} {H : List (Nat × Nat × Rec)} {res : Int32 × Rec} {NF : Nat} {ob : Rec} {i1 : Int32} (hf : X_evaluate NF ob i1 = some res) : Pays C B7 [.ref a, .int i1] (top, (a, 6, ob) :: H) (Ans (some (.int res.1)) (top, (a, 6, res.2) :: H)) :=
  Pays.of pnK (Nat.le_of_ble_eq_true rfl) (P := [vr a, vi i1]) 0 rfl (X_evaluate_p ob i1 hf)
def X_lastResult (ob : Rec) : Option (Int32) :=
  some (gI ob 5)
set_option maxRecDepth 65536 in
set_option maxHeartbeats 4000000 in
theorem X_lastResult_p {C : Ctx} {top : Nat} {a : Nat} {H : List (Nat × Nat × Rec)} {ob : Rec} {res : Int32} (hf : X_lastResult ob = some res) : Runs C B16 0 0 0 [vr a] [] (top, (a, 6, ob) :: H) (Ans (some (.int res)) (top, (a, 6, ob) :: H)) := by
  delta X_lastResult at hf
  obtain rfl := Option.some.inj hf
  exact Runs.aloadN d16_0 rfl <| Runs.getI d16_1 w39 fS_5 <| Runs.retI d16_4 rfl ⟨by decide, by decide⟩ ⟨rfl, rfl⟩
theorem X_lastResult_pay {C : Ctx} {top : Nat} {a : Nat} {H : List (Nat × Nat × Rec)} {ob : Rec} {res : Int32} (hf : X_lastResult ob = some res) : Pays C B16 [.ref a] (top, (a, 6, ob) :: H) (Ans (some (.int res)) (top, (a, 6, ob) :: H)) :=
  Pays.of pnK (Nat.le_of_ble_eq_true rfl) (P := [vr a]) 0 rfl (X_lastResult_p hf)
def X_witness (ob : Rec) : Option (Int32) :=
  some (gI ob 6)
set_option maxRecDepth 65536 in
set_option maxHeartbeats 4000000 in
theorem X_witness_p {C : Ctx} {top : Nat} {a : Nat} {H : List (Nat × Nat × Rec)} {ob : Rec} {res : Int32} (hf : X_witness ob = some res) : Runs C B17 0 0 0 [vr a] [] (top, (a, 6, ob) :: H) (Ans (some (.int res)) (top, (a, 6, ob) :: H)) := by
  delta X_witness at hf
  obtain rfl := Option.some.inj hf
  exact Runs.aloadN d17_0 rfl <| Runs.getI d17_1 w41 fS_6 <| Runs.retI d17_4 rfl ⟨by decide, by decide⟩ ⟨rfl, rfl⟩
theorem X_witness_pay {C : Ctx} {top : Nat} {a : Nat} {H : List (Nat × Nat × Rec)} {ob : Rec} {res : Int32} (hf : X_witness ob = some res) : Pays C B17 [.ref a] (top, (a, 6, ob) :: H) (Ans (some (.int res)) (top, (a, 6, ob) :: H)) :=
  Pays.of pnK (Nat.le_of_ble_eq_true rfl) (P := [vr a]) 0 rfl (X_witness_p hf)
def L_law_b148 (NF : Nat) (ob : Rec) (i4 : Int32) (i5 : Int32) (i6 : Int32) (i7 : Int32) (i8 : Int32) (i9 : Int32) (i10 : Int32) (i11 : Int32) (i12 : Int32) : Option (Int32) :=
  if i4 = i10 then
    if i5 = i11 then
      if i6 = i11 then
        if i7 = i12 then
          if i8 = (0 : Int32) then
            if i9 = (-1 : Int32) then
              some (1 : Int32)
            else
              some (0 : Int32)
          else
            some (0 : Int32)
        else
          some (0 : Int32)
      else
        some (0 : Int32)
    else
      some (0 : Int32)
  else
    some (0 : Int32)
set_option maxRecDepth 65536 in
set_option maxHeartbeats 4000000 in
theorem L_law_b148_p {C : Ctx} {res : Int32} {NF : Nat} (ob : Rec) (i4 : Int32) (i5 : Int32) (i6 : Int32) (i7 : Int32) (i8 : Int32) (i9 : Int32) (i10 : Int32) (i11 : Int32) (i12 : Int32) (hf : L_law_b148 NF ob i4 i5 i6 i7 i8 i9 i10 i11 i12 = some res) : Runs C B0 7 218 148 [vn, vn, vn, vn, vi i4, vi i5, vi i6, vi i7, vi i8, vi i9, vi i10, vi i11, vi i12] [] (C.2.2.1 + 1 + 6, (C.2.2.1, 6, ob) :: []) (fun v _ => v = (some (.int res))) := by
  delta L_law_b148 at hf
  refine Runs.iload d0_148 rfl <| Runs.iload d0_150 rfl <| ?_
  refine ite_el hf (fun hc7 hf => ?_) (fun hc7 hf => ?_)
  · refine Runs.icN d0_152 (teq hc7).2 <| ?_
    refine Runs.iload d0_155 rfl <| Runs.iload d0_157 rfl <| ?_
    refine ite_el hf (fun hc8 hf => ?_) (fun hc8 hf => ?_)
    · refine Runs.icN d0_159 (teq hc8).2 <| ?_
      refine Runs.iload d0_162 rfl <| Runs.iload d0_164 rfl <| ?_
      refine ite_el hf (fun hc9 hf => ?_) (fun hc9 hf => ?_)
      · refine Runs.icN d0_166 (teq hc9).2 <| ?_
        refine Runs.iload d0_169 rfl <| Runs.iload d0_171 rfl <| ?_
        refine ite_el hf (fun hc10 hf => ?_) (fun hc10 hf => ?_)
        · refine Runs.icN d0_173 (teq hc10).2 <| ?_
          refine Runs.iload d0_176 rfl <| ?_
          refine ite_el hf (fun hc11 hf => ?_) (fun hc11 hf => ?_)
          · refine Runs.ifN d0_178 (teq hc11).2 <| ?_
            refine Runs.iload d0_181 rfl <| Runs.iconst d0_183 ci_m1 <| ?_
            refine ite_el hf (fun hc12 hf => ?_) (fun hc12 hf => ?_)
            · refine Runs.icN d0_184 (teq hc12).2 <| ?_
              obtain rfl := Option.some.inj hf
              exact Runs.iconst d0_187 ci_1 <| Runs.goto (pc' := 192) d0_188 (by decide) <| Runs.retZ (y := (1 : Int32)) d0_192 rfl ⟨by decide, by decide⟩ rfl rfl
            · refine Runs.icY (pc' := 191) d0_184 (feq hc12).2 (by decide) <| ?_
              obtain rfl := Option.some.inj hf
              exact Runs.iconst d0_191 ci_0 <| Runs.retZ (y := (0 : Int32)) d0_192 rfl ⟨by decide, by decide⟩ rfl rfl
          · refine Runs.ifY (pc' := 191) d0_178 (feq hc11).2 (by decide) <| ?_
            obtain rfl := Option.some.inj hf
            exact Runs.iconst d0_191 ci_0 <| Runs.retZ (y := (0 : Int32)) d0_192 rfl ⟨by decide, by decide⟩ rfl rfl
        · refine Runs.icY (pc' := 191) d0_173 (feq hc10).2 (by decide) <| ?_
          obtain rfl := Option.some.inj hf
          exact Runs.iconst d0_191 ci_0 <| Runs.retZ (y := (0 : Int32)) d0_192 rfl ⟨by decide, by decide⟩ rfl rfl
      · refine Runs.icY (pc' := 191) d0_166 (feq hc9).2 (by decide) <| ?_
        obtain rfl := Option.some.inj hf
        exact Runs.iconst d0_191 ci_0 <| Runs.retZ (y := (0 : Int32)) d0_192 rfl ⟨by decide, by decide⟩ rfl rfl
    · refine Runs.icY (pc' := 191) d0_159 (feq hc8).2 (by decide) <| ?_
      obtain rfl := Option.some.inj hf
      exact Runs.iconst d0_191 ci_0 <| Runs.retZ (y := (0 : Int32)) d0_192 rfl ⟨by decide, by decide⟩ rfl rfl
  · refine Runs.icY (pc' := 191) d0_152 (feq hc7).2 (by decide) <| ?_
    obtain rfl := Option.some.inj hf
    exact Runs.iconst d0_191 ci_0 <| Runs.retZ (y := (0 : Int32)) d0_192 rfl ⟨by decide, by decide⟩ rfl rfl
def L_law_b86 (NF : Nat) (ob : Rec) (i1 : Int32) (i2 : Int32) (i4 : Int32) (i5 : Int32) (i6 : Int32) (i7 : Int32) (i8 : Int32) (i9 : Int32) (i10 : Int32) (t0 : Int32) : Option (Int32) :=
  if i2 < (0 : Int32) then
    L_law_b148 NF ob i4 i5 i6 i7 i8 i9 i10 t0 (-1 : Int32)
  else
    if (255 : Int32) < i2 then
      L_law_b148 NF ob i4 i5 i6 i7 i8 i9 i10 t0 (-1 : Int32)
    else
      if i10 = (0 : Int32) then
        if i1 = (8 : Int32) then
          L_law_b148 NF ob i4 i5 i6 i7 i8 i9 i10 t0 (0 : Int32)
        else
          if i1 = (9 : Int32) then
            L_law_b148 NF ob i4 i5 i6 i7 i8 i9 i10 t0 (1 : Int32)
          else
            L_law_b148 NF ob i4 i5 i6 i7 i8 i9 i10 t0 ((i2 >>> (i1 &&& 31)) &&& (1 : Int32))
      else
        L_law_b148 NF ob i4 i5 i6 i7 i8 i9 i10 t0 (-5 : Int32)
set_option maxRecDepth 65536 in
set_option maxHeartbeats 4000000 in
theorem L_law_b86_p {C : Ctx} {res : Int32} {NF : Nat} (ob : Rec) (i1 : Int32) (i2 : Int32) (i4 : Int32) (i5 : Int32) (i6 : Int32) (i7 : Int32) (i8 : Int32) (i9 : Int32) (i10 : Int32) (t0 : Int32) (hf : L_law_b86 NF ob i1 i2 i4 i5 i6 i7 i8 i9 i10 t0 = some res) : Runs C B0 7 218 86 [vn, vi i1, vi i2, vn, vi i4, vi i5, vi i6, vi i7, vi i8, vi i9, vi i10, vn, vn] [.int t0] (C.2.2.1 + 1 + 6, (C.2.2.1, 6, ob) :: []) (fun v _ => v = (some (.int res))) := by
  delta L_law_b86 at hf
  refine Runs.istore (P' := [vn, vi i1, vi i2, vn, vi i4, vi i5, vi i6, vi i7, vi i8, vi i9, vi i10, vi t0, vn]) d0_86 (by decide) rfl <| Runs.iloadN d0_88 rfl <| ?_
  refine ite_el hf (fun hc2 hf => ?_) (fun hc2 hf => ?_)
  · refine Runs.ifY (pc' := 99) d0_89 (tlt hc2).1 (by decide) <| ?_
    exact Runs.iconst d0_99 ci_m1 <| Runs.istore (P' := [vn, vi i1, vi i2, vn, vi i4, vi i5, vi i6, vi i7, vi i8, vi i9, vi i10, vi t0, vi (-1 : Int32)]) d0_100 (by decide) rfl <| Runs.goto (pc' := 148) d0_102 (by decide) <| Runs.forget [false, false, false, false, true, true, true, true, true, true, true, true, true] rfl <| L_law_b148_p ob i4 i5 i6 i7 i8 i9 i10 t0 (-1 : Int32) hf
  · refine Runs.ifN d0_89 (flt hc2).1 <| ?_
    refine Runs.iloadN d0_92 rfl <| Runs.sipush d0_93 cs_255 <| ?_
    refine ite_el hf (fun hc3 hf => ?_) (fun hc3 hf => ?_)
    · refine Runs.icN d0_96 (tlt hc3).2.2.2 <| ?_
      exact Runs.iconst d0_99 ci_m1 <| Runs.istore (P' := [vn, vi i1, vi i2, vn, vi i4, vi i5, vi i6, vi i7, vi i8, vi i9, vi i10, vi t0, vi (-1 : Int32)]) d0_100 (by decide) rfl <| Runs.goto (pc' := 148) d0_102 (by decide) <| Runs.forget [false, false, false, false, true, true, true, true, true, true, true, true, true] rfl <| L_law_b148_p ob i4 i5 i6 i7 i8 i9 i10 t0 (-1 : Int32) hf
    · refine Runs.icY (pc' := 105) d0_96 (flt hc3).2.2.2 (by decide) <| ?_
      refine Runs.iload d0_105 rfl <| ?_
      refine ite_el hf (fun hc4 hf => ?_) (fun hc4 hf => ?_)
      · refine Runs.ifY (pc' := 117) d0_107 (teq hc4).1 (by decide) <| ?_
        refine Runs.iloadN d0_117 rfl <| Runs.bipush d0_118 cb_8 <| ?_
        refine ite_el hf (fun hc5 hf => ?_) (fun hc5 hf => ?_)
        · refine Runs.icN d0_120 (teq hc5).2 <| ?_
          exact Runs.iconst d0_123 ci_0 <| Runs.istore (P' := [vn, vi i1, vi i2, vn, vi i4, vi i5, vi i6, vi i7, vi i8, vi i9, vi i10, vi t0, vi (0 : Int32)]) d0_124 (by decide) rfl <| Runs.goto (pc' := 148) d0_126 (by decide) <| Runs.forget [false, false, false, false, true, true, true, true, true, true, true, true, true] rfl <| L_law_b148_p ob i4 i5 i6 i7 i8 i9 i10 t0 (0 : Int32) hf
        · refine Runs.icY (pc' := 129) d0_120 (feq hc5).2 (by decide) <| ?_
          refine Runs.iloadN d0_129 rfl <| Runs.bipush d0_130 cb_9 <| ?_
          refine ite_el hf (fun hc6 hf => ?_) (fun hc6 hf => ?_)
          · refine Runs.icN d0_132 (teq hc6).2 <| ?_
            exact Runs.iconst d0_135 ci_1 <| Runs.istore (P' := [vn, vi i1, vi i2, vn, vi i4, vi i5, vi i6, vi i7, vi i8, vi i9, vi i10, vi t0, vi (1 : Int32)]) d0_136 (by decide) rfl <| Runs.goto (pc' := 148) d0_138 (by decide) <| Runs.forget [false, false, false, false, true, true, true, true, true, true, true, true, true] rfl <| L_law_b148_p ob i4 i5 i6 i7 i8 i9 i10 t0 (1 : Int32) hf
          · refine Runs.icY (pc' := 141) d0_132 (feq hc6).2 (by decide) <| ?_
            exact Runs.iloadN d0_141 rfl <| Runs.iloadN d0_142 rfl <| Runs.ishr d0_143 <| Runs.iconst d0_144 ci_1 <| Runs.iand d0_145 <| Runs.istore (P' := [vn, vi i1, vi i2, vn, vi i4, vi i5, vi i6, vi i7, vi i8, vi i9, vi i10, vi t0, vi ((i2 >>> (i1 &&& 31)) &&& (1 : Int32))]) d0_146 (by decide) rfl <| Runs.forget [false, false, false, false, true, true, true, true, true, true, true, true, true] rfl <| L_law_b148_p ob i4 i5 i6 i7 i8 i9 i10 t0 ((i2 >>> (i1 &&& 31)) &&& (1 : Int32)) hf
      · refine Runs.ifN d0_107 (feq hc4).1 <| ?_
        exact Runs.bipush d0_110 cb_m5 <| Runs.istore (P' := [vn, vi i1, vi i2, vn, vi i4, vi i5, vi i6, vi i7, vi i8, vi i9, vi i10, vi t0, vi (-5 : Int32)]) d0_112 (by decide) rfl <| Runs.goto (pc' := 148) d0_114 (by decide) <| Runs.forget [false, false, false, false, true, true, true, true, true, true, true, true, true] rfl <| L_law_b148_p ob i4 i5 i6 i7 i8 i9 i10 t0 (-5 : Int32) hf
def L_law_b76 (NF : Nat) (ob : Rec) (i1 : Int32) (i2 : Int32) (i4 : Int32) (i5 : Int32) (i6 : Int32) (i7 : Int32) (i8 : Int32) (i9 : Int32) (i10 : Int32) : Option (Int32) :=
  if i10 = (0 : Int32) then
    L_law_b86 NF ob i1 i2 i4 i5 i6 i7 i8 i9 i10 (1 : Int32)
  else
    L_law_b86 NF ob i1 i2 i4 i5 i6 i7 i8 i9 i10 (0 : Int32)
set_option maxRecDepth 65536 in
set_option maxHeartbeats 4000000 in
theorem L_law_b76_p {C : Ctx} {res : Int32} {NF : Nat} (ob : Rec) (i1 : Int32) (i2 : Int32) (i4 : Int32) (i5 : Int32) (i6 : Int32) (i7 : Int32) (i8 : Int32) (i9 : Int32) (i10 : Int32) (hf : L_law_b76 NF ob i1 i2 i4 i5 i6 i7 i8 i9 i10 = some res) : Runs C B0 7 218 76 [vn, vi i1, vi i2, vn, vi i4, vi i5, vi i6, vi i7, vi i8, vi i9, vi i10, vn, vn] [] (C.2.2.1 + 1 + 6, (C.2.2.1, 6, ob) :: []) (fun v _ => v = (some (.int res))) := by
  delta L_law_b76 at hf
  refine Runs.iload d0_76 rfl <| ?_
  refine ite_el hf (fun hc1 hf => ?_) (fun hc1 hf => ?_)
  · refine Runs.ifN d0_78 (teq hc1).2 <| ?_
    exact Runs.iconst d0_81 ci_1 <| Runs.goto (pc' := 86) d0_82 (by decide) <| L_law_b86_p ob i1 i2 i4 i5 i6 i7 i8 i9 i10 (1 : Int32) hf
  · refine Runs.ifY (pc' := 85) d0_78 (feq hc1).2 (by decide) <| ?_
    exact Runs.iconst d0_85 ci_0 <| L_law_b86_p ob i1 i2 i4 i5 i6 i7 i8 i9 i10 (0 : Int32) hf
def L_law (NF : Nat) (i0 : Int32) (i1 : Int32) (i2 : Int32) : Option (Int32) :=
  (X_init i0).bind fun q13 =>
  bind2 (X_pushToken q13 i1) fun r15 q16 =>
  (X_length q16).bind fun r18 =>
  (X_depth q16).bind fun r20 =>
  bind2 (X_evaluate NF q16 i2) fun r22 q23 =>
  (X_lastResult q23).bind fun r25 =>
  (X_witness q23).bind fun r27 =>
  if i1 < (0 : Int32) then
    L_law_b76 NF q23 i1 i2 r15 r18 r20 r22 r25 r27 (-1 : Int32)
  else
    if (15 : Int32) < i1 then
      L_law_b76 NF q23 i1 i2 r15 r18 r20 r22 r25 r27 (-1 : Int32)
    else
      if i1 < (10 : Int32) then
        L_law_b76 NF q23 i1 i2 r15 r18 r20 r22 r25 r27 (0 : Int32)
      else
        L_law_b76 NF q23 i1 i2 r15 r18 r20 r22 r25 r27 (-3 : Int32)
set_option maxRecDepth 65536 in
set_option maxHeartbeats 4000000 in
theorem L_law_p {C : Ctx} {res : Int32} {NF : Nat} (i0 : Int32) (i1 : Int32) (i2 : Int32) (hf : L_law NF i0 i1 i2 = some res) : Runs C B0 0 0 0 [vi i0, vi i1, vi i2, vn, vn, vn, vn, vn, vn, vn, vn, vn, vn] [] (C.2.2.1, []) (fun v _ => v = (some (.int res))) := by
  delta L_law at hf
  refine Runs.newK (k' := 1) (n' := 14) d0_0 w0 ⟨by decide, by decide⟩ rfl rfl (by intro x hx; cases hx) <| Runs.dup d0_3 rfl <| Runs.iloadN d0_4 rfl <| ?_
  refine bind_el hf fun q13 hg14 hf => ?_
  refine Runs.callI (N := B1) (k' := 7) (n' := 218) (W := 1) (as := [.int i0]) (S' := [.ref C.2.2.1]) d0_5 rfl rfl w3 w4 cw1 ar1 (by decide) rfl rfl rfl rfl (X_init_pay hg14) <| ans0 <| Runs.astoreN (P' := [vi i0, vi i1, vi i2, vr C.2.2.1, vn, vn, vn, vn, vn, vn, vn, vn, vn]) d0_8 (by decide) rfl <| Runs.aloadN d0_9 rfl <| Runs.iloadN d0_10 rfl <| ?_
  refine bind2_el hf fun r15 q16 hg17 hf => ?_
  refine Runs.callV (N := B3) (W := 0) (as := [.int i1]) (S' := []) d0_11 w43 w44 w45 w46 cw3 ar3 rk0_3_0 (by decide) rfl rfl (X_pushToken_pay hg17) <| ans1 <| Runs.istore (P' := [vi i0, vi i1, vi i2, vr C.2.2.1, vi r15, vn, vn, vn, vn, vn, vn, vn, vn]) d0_14 (by decide) rfl <| Runs.aloadN d0_16 rfl <| ?_
  refine bind_el hf fun r18 hg19 hf => ?_
  refine Runs.callV (N := B5) (W := 0) (as := []) (S' := []) d0_17 w52 w53 w54 w55 cw5 ar5 rk0_5_0 (by decide) rfl rfl (X_length_pay hg19) <| ans1 <| Runs.istore (P' := [vi i0, vi i1, vi i2, vr C.2.2.1, vi r15, vi r18, vn, vn, vn, vn, vn, vn, vn]) d0_20 (by decide) rfl <| Runs.aloadN d0_22 rfl <| ?_
  refine bind_el hf fun r20 hg21 hf => ?_
  refine Runs.callV (N := B6) (W := 0) (as := []) (S' := []) d0_23 w57 w58 w59 w60 cw6 ar6 rk0_6_0 (by decide) rfl rfl (X_depth_pay hg21) <| ans1 <| Runs.istore (P' := [vi i0, vi i1, vi i2, vr C.2.2.1, vi r15, vi r18, vi r20, vn, vn, vn, vn, vn, vn]) d0_26 (by decide) rfl <| Runs.aloadN d0_28 rfl <| Runs.iloadN d0_29 rfl <| ?_
  refine bind2_el hf fun r22 q23 hg24 hf => ?_
  refine Runs.callV (N := B7) (W := 0) (as := [.int i2]) (S' := []) d0_30 w62 w63 w64 w65 cw7 ar7 rk0_7_0 (by decide) rfl rfl (X_evaluate_pay hg24) <| ans1 <| Runs.istore (P' := [vi i0, vi i1, vi i2, vr C.2.2.1, vi r15, vi r18, vi r20, vi r22, vn, vn, vn, vn, vn]) d0_33 (by decide) rfl <| Runs.aloadN d0_35 rfl <| ?_
  refine bind_el hf fun r25 hg26 hf => ?_
  refine Runs.callV (N := B16) (W := 0) (as := []) (S' := []) d0_36 w100 w101 w102 w103 cw16 ar16 rk0_16_0 (by decide) rfl rfl (X_lastResult_pay hg26) <| ans1 <| Runs.istore (P' := [vi i0, vi i1, vi i2, vr C.2.2.1, vi r15, vi r18, vi r20, vi r22, vi r25, vn, vn, vn, vn]) d0_39 (by decide) rfl <| Runs.aloadN d0_41 rfl <| ?_
  refine bind_el hf fun r27 hg28 hf => ?_
  refine Runs.callV (N := B17) (W := 0) (as := []) (S' := []) d0_42 w105 w106 w107 w108 cw17 ar17 rk0_17_0 (by decide) rfl rfl (X_witness_pay hg28) <| ans1 <| Runs.istore (P' := [vi i0, vi i1, vi i2, vr C.2.2.1, vi r15, vi r18, vi r20, vi r22, vi r25, vi r27, vn, vn, vn]) d0_45 (by decide) rfl <| Runs.iconst d0_47 ci_0 <| Runs.istore (P' := [vi i0, vi i1, vi i2, vr C.2.2.1, vi r15, vi r18, vi r20, vi r22, vi r25, vi r27, vi (0 : Int32), vn, vn]) d0_48 (by decide) rfl <| Runs.iloadN d0_50 rfl <| ?_
  refine ite_el hf (fun hc29 hf => ?_) (fun hc29 hf => ?_)
  · refine Runs.ifY (pc' := 60) d0_51 (tlt hc29).1 (by decide) <| ?_
    exact Runs.iconst d0_60 ci_m1 <| Runs.istore (P' := [vi i0, vi i1, vi i2, vr C.2.2.1, vi r15, vi r18, vi r20, vi r22, vi r25, vi r27, vi (-1 : Int32), vn, vn]) d0_61 (by decide) rfl <| Runs.goto (pc' := 76) d0_63 (by decide) <| Runs.forget [false, true, true, false, true, true, true, true, true, true, true, false, false] rfl <| L_law_b76_p q23 i1 i2 r15 r18 r20 r22 r25 r27 (-1 : Int32) hf
  · refine Runs.ifN d0_51 (flt hc29).1 <| ?_
    refine Runs.iloadN d0_54 rfl <| Runs.bipush d0_55 cb_15 <| ?_
    refine ite_el hf (fun hc30 hf => ?_) (fun hc30 hf => ?_)
    · refine Runs.icN d0_57 (tlt hc30).2.2.2 <| ?_
      exact Runs.iconst d0_60 ci_m1 <| Runs.istore (P' := [vi i0, vi i1, vi i2, vr C.2.2.1, vi r15, vi r18, vi r20, vi r22, vi r25, vi r27, vi (-1 : Int32), vn, vn]) d0_61 (by decide) rfl <| Runs.goto (pc' := 76) d0_63 (by decide) <| Runs.forget [false, true, true, false, true, true, true, true, true, true, true, false, false] rfl <| L_law_b76_p q23 i1 i2 r15 r18 r20 r22 r25 r27 (-1 : Int32) hf
    · refine Runs.icY (pc' := 66) d0_57 (flt hc30).2.2.2 (by decide) <| ?_
      refine Runs.iloadN d0_66 rfl <| Runs.bipush d0_67 cb_10 <| ?_
      refine ite_el hf (fun hc31 hf => ?_) (fun hc31 hf => ?_)
      · exact Runs.icY (pc' := 76) d0_69 (tlt hc31).1 (by decide) <| Runs.forget [false, true, true, false, true, true, true, true, true, true, true, false, false] rfl <| L_law_b76_p q23 i1 i2 r15 r18 r20 r22 r25 r27 (0 : Int32) hf
      · refine Runs.icN d0_69 (flt hc31).1 <| ?_
        exact Runs.bipush d0_72 cb_m3 <| Runs.istore (P' := [vi i0, vi i1, vi i2, vr C.2.2.1, vi r15, vi r18, vi r20, vi r22, vi r25, vi r27, vi (-3 : Int32), vn, vn]) d0_74 (by decide) rfl <| Runs.forget [false, true, true, false, true, true, true, true, true, true, true, false, false] rfl <| L_law_b76_p q23 i1 i2 r15 r18 r20 r22 r25 r27 (-3 : Int32) hf
theorem L_law_pay {C : Ctx} {res : Int32} {NF : Nat} {i0 : Int32} {i1 : Int32} {i2 : Int32} (hf : L_law NF i0 i1 i2 = some res) : Pays C B0 [.int i0, .int i1, .int i2] (C.2.2.1, []) (fun v _ => v = (some (.int res))) :=
  Pays.of pnL (Nat.le_of_ble_eq_true rfl) (P := [vi i0, vi i1, vi i2, vn, vn, vn, vn, vn, vn, vn, vn, vn, vn]) 10 rfl (L_law_p i0 i1 i2 hf)
-- no word: X_step at 50: method #106
-- no word: X_step at 60: method #109
--OWED--
theorem gI_sI (ob : Rec) (k j : Nat) (v : Int32) : gI (sI ob k v) j = if j = k then v else gI ob j := rfl
theorem gI_sA (ob : Rec) (k j : Nat) (i v : Int32) : gI (sA ob k i v) j = gI ob j := rfl
theorem gI_sJ (ob : Rec) (k j : Nat) (i : Int32) (v : Int64) : gI (sJ ob k i v) j = gI ob j := rfl
theorem gA_sI (ob : Rec) (k j : Nat) (v x : Int32) : gA (sI ob k v) j x = gA ob j x := rfl
theorem gA_sA (ob : Rec) (k j : Nat) (i v x : Int32) : gA (sA ob k i v) j x = if j = k ∧ x = i then v else gA ob j x := rfl
theorem gA_sJ (ob : Rec) (k j : Nat) (i x : Int32) (v : Int64) : gA (sJ ob k i v) j x = gA ob j x := rfl
theorem gJ_sI (ob : Rec) (k j : Nat) (v x : Int32) : gJ (sI ob k v) j x = gJ ob j x := rfl
theorem gJ_sA (ob : Rec) (k j : Nat) (i v x : Int32) : gJ (sA ob k i v) j x = gJ ob j x := rfl
theorem gJ_sJ (ob : Rec) (k j : Nat) (i x : Int32) (v : Int64) : gJ (sJ ob k i v) j x = if j = k ∧ x = i then v else gJ ob j x := rfl
theorem gI_z (k : Nat) : gI zrec k = 0 := rfl
theorem gA_z (k : Nat) (i : Int32) : gA zrec k i = 0 := rfl
theorem gJ_z (k : Nat) (i : Int32) : gJ zrec k i = 0 := rfl
theorem chk_ok {γ : Type} {n i : Int32} {A : Option γ} (h : 0 ≤ i.toInt ∧ i.toInt < n.toInt) : chk n i A = A := by
  have h0 : ¬ i < 0 := by rw [Int32.lt_iff_toInt_lt]; show ¬ i.toInt < 0; omega
  have h1 : i < n := by rw [Int32.lt_iff_toInt_lt]; exact h.2
  unfold chk; rw [if_neg h0, if_pos h1]
theorem lt_i {x y : Int32} : x < y ↔ x.toInt < y.toInt := Int32.lt_iff_toInt_lt
theorem le_i {x y : Int32} : x ≤ y ↔ x.toInt ≤ y.toInt := Int32.le_iff_toInt_le
theorem eq_i32 {x y : Int32} : x = y ↔ x.toInt = y.toInt := Int32.toInt_inj.symm
theorem bm_id {n : Int} (h : -2147483648 ≤ n ∧ n < 2147483648) : n.bmod (2 ^ 32) = n := Int.bmod_eq_of_le (by omega) (by omega)
theorem ad {x y : Int32} (h : -2147483648 ≤ x.toInt + y.toInt ∧ x.toInt + y.toInt < 2147483648) : (x + y).toInt = x.toInt + y.toInt := by rw [Int32.toInt_add, bm_id h]
theorem sb {x y : Int32} (h : -2147483648 ≤ x.toInt - y.toInt ∧ x.toInt - y.toInt < 2147483648) : (x - y).toInt = x.toInt - y.toInt := by rw [Int32.toInt_sub, bm_id h]
theorem ml {x y : Int32} (h : -2147483648 ≤ x.toInt * y.toInt ∧ x.toInt * y.toInt < 2147483648) : (x * y).toInt = x.toInt * y.toInt := by rw [Int32.toInt_mul, bm_id h]
theorem bind2_some {α β γ : Type} (a : α) (b : β) (f : α → β → Option γ) : bind2 (some (a, b)) f = f a b := rfl
theorem t0 : (0 : Int32).toInt = 0 := rfl
theorem t9 : (9 : Int32).toInt = 9 := rfl
theorem t15 : (15 : Int32).toInt = 15 := rfl
theorem t32 : (32 : Int32).toInt = 32 := rfl
theorem t255 : (255 : Int32).toInt = 255 := rfl
theorem init_e (a : Int32) : ∃ r, X_init a = some r ∧ gI r 1 = 0 ∧ gI r 2 = 0 ∧ 8 ≤ (gI r 0).toInt ∧ (gI r 0).toInt ≤ 32 ∧ gI r 5 = 0 ∧ gI r 6 = -1 ∧ gI r 7 = 0 ∧ ∀ k i, gA r k i = 0 := by
  unfold X_init X_init_b61 X_init_b70 X_resetResult
  by_cases h1 : a < 8
  · simp only [h1, if_true]
    exact ⟨_, rfl, rfl, rfl, by decide, by decide, rfl, rfl, rfl, fun _ _ => rfl⟩
  · by_cases h2 : 32 < a
    · simp only [h1, h2, if_true, if_false]
      exact ⟨_, rfl, rfl, rfl, by decide, by decide, rfl, rfl, rfl, fun _ _ => rfl⟩
    · simp only [h1, h2, if_false]
      simp only [lt_i, Int32.reduceToInt] at h1 h2
      refine ⟨_, rfl, rfl, rfl, ?_, ?_, rfl, rfl, rfl, fun _ _ => rfl⟩
      · show 8 ≤ a.toInt; omega
      · show a.toInt ≤ 32; omega
def ar (t : Int32) : Int32 := if 9 < t then if t = 10 then 1 else 2 else 0
theorem ar_e (ob : Rec) (t : Int32) : X_arity ob t = some (ar t) := by
  unfold X_arity ar; split
  · split <;> rfl
  · rfl
theorem push_out (ob : Rec) (t : Int32) (h : t < 0 ∨ 15 < t) : X_pushToken ob t = some (-1, ob) := by
  unfold X_pushToken
  by_cases c : t < 0
  · rw [if_pos c]
  · rw [if_neg c, if_pos (h.resolve_left c)]
theorem push_ar (ob : Rec) (t : Int32) (h0 : ¬ t < 0) (h1 : ¬ 15 < t) (hl : gI ob 1 < gI ob 0) (hd : gI ob 2 < ar t) : X_pushToken ob t = some (-3, ob) := by
  unfold X_pushToken; rw [if_neg h0, if_neg h1, if_pos hl, ar_e, Option.bind_some, if_pos hd]
theorem push_ok (ob : Rec) (t : Int32) (h0 : ¬ t < 0) (h1 : ¬ 15 < t) (hl : gI ob 1 < gI ob 0) (hl' : 0 ≤ (gI ob 1).toInt ∧ (gI ob 1).toInt < 32) (hd : ¬ gI ob 2 < ar t) : X_pushToken ob t = some (0, sI (sI (sI (sI (sI (sA ob 0 (gI ob 1) t) 1 (gI ob 1 + 1)) 2 (gI ob 2 + 1 - ar t)) 7 0) 5 0) 6 (-1)) := by
  unfold X_pushToken X_resetResult; rw [if_neg h0, if_neg h1, if_pos hl, ar_e, Option.bind_some, if_neg hd, chk_ok (n := 32) (by rw [t32]; exact hl')]; rfl
-- USE: fa
def lw (t j : Int32) : Int64 := (X_leafWord zrec t j).getD 0
theorem lw_e (ob : Rec) (t j : Int32) : X_leafWord ob t j = some (lw t j) := by
  have : ∃ v, X_leafWord zrec t j = some v := by
    unfold X_leafWord X_varWord
    repeat' split
    all_goals exact ⟨_, rfl⟩
  obtain ⟨v, e⟩ := this
  have e' : X_leafWord ob t j = some v := e
  unfold lw; rw [e', e]; rfl
theorem mem10 {n : Int32} (h : ¬ n < 0 ∧ ¬ 9 < n) : n ∈ ([0, 1, 2, 3, 4, 5, 6, 7, 8, 9] : List Int32) := by
  simp only [List.mem_cons, eq_i32, Int32.reduceToInt, List.not_mem_nil, or_false]
  rw [lt_i, lt_i, t0, t9] at h
  omega
def L256 : List Int32 := (List.range 256).map fun k => Int32.ofNat k
theorem mem256 {n : Int32} (h : ¬ n < 0 ∧ ¬ 255 < n) : n ∈ L256 := by
  rw [lt_i, lt_i, t0, t255] at h
  refine List.mem_map.mpr ⟨n.toInt.toNat, List.mem_range.mpr (by omega), ?_⟩
  rw [eq_i32, Int32.toInt_ofNat_of_lt (by omega)]
  omega
def bit (w : Int64) (i : Int32) : Int32 := ((w.toUInt64 >>> ((i &&& (63 : Int32)) &&& 0x3f).toInt64.toUInt64).toInt64 &&& (1 : Int64)).toInt32
def ix (i : Int32) : Int32 := (i >>> ((6 : Int32) &&& 31)) &&& (3 : Int32)
theorem bits : ∀ t ∈ ([0, 1, 2, 3, 4, 5, 6, 7, 8, 9] : List Int32), ∀ i ∈ L256, bit (lw t (ix i)) i = if t = 8 then 0 else if t = 9 then 1 else ((i >>> (t &&& 31)) &&& 1) := by decide +kernel
theorem ixm : ∀ i ∈ L256, ix i ∈ ([0, 1, 2, 3] : List Int32) := by decide +kernel
theorem ev_ok (ob : Rec) (t i : Int32) (ht : ¬ t < 0 ∧ ¬ 9 < t) (hi : ¬ i < 0 ∧ ¬ 255 < i) (e1 : gI ob 1 = 1) (e2 : gI ob 2 = 1) (e7 : gI ob 7 = 0) (ea : gA ob 0 0 = t) (e5 : gI ob 5 = 0) (e6 : gI ob 6 = -1) : ∃ q, X_evaluate 20 ob i = some (bit (lw t (ix i)) i, q) ∧ gI q 5 = 0 ∧ gI q 6 = -1 := by
  have art : ar t = 0 := by unfold ar; rw [if_neg ht.2]
  have pl : X_pushLeaf 20 ob t 0 = some (sJ (sJ (sJ (sJ ob 2 0 (lw t 0)) 2 1 (lw t 1)) 2 2 (lw t 2)) 2 3 (lw t 3)) := by
    have st : ∀ (n : Nat) (o : Rec) (j : Int32), j < 4 → ¬ j < 0 → X_pushLeaf_l7 20 (n + 1) o t (0 * 4) j = X_pushLeaf_l7 20 n (sJ o 2 (0 * 4 + j) (lw t j)) t (0 * 4) (j + 1) := by
      intro n o j h h0
      show X_pushLeaf_w7 20 _ o t (0 * 4) j = _
      have ej : (0 * 4 + j : Int32) = j := by simp
      have t4 : (4 : Int32).toInt = 4 := rfl
      have t128 : (128 : Int32).toInt = 128 := rfl
      unfold X_pushLeaf_w7; rw [if_pos h, lw_e, Option.bind_some, chk_ok (n := 128) (by rw [ej]; rw [lt_i, t4] at h; rw [lt_i, t0] at h0; rw [t128]; omega)]
    show X_pushLeaf_l7 20 (19 + 1) ob t (0 * 4) 0 = _
    rw [st 19 _ 0 (by decide) (by decide), st 18 _ _ (by decide) (by decide), st 17 _ _ (by decide) (by decide), st 16 _ _ (by decide) (by decide)]
    rfl
  have stp : X_step 20 ob t 0 = some (1, sJ (sJ (sJ (sJ ob 2 0 (lw t 0)) 2 1 (lw t 1)) 2 2 (lw t 2)) 2 3 (lw t 3)) := by
    unfold X_step; rw [ar_e, Option.bind_some, art, if_neg (by decide), if_neg (by decide), if_pos rfl, if_pos (by decide), pl]; rfl
  have sto : ∀ o : Rec, X_storeTopIntoF 20 o 1 = some (sJ (sJ (sJ (sJ o 3 0 (gJ o 2 0)) 3 1 (gJ o 2 1)) 3 2 (gJ o 2 2)) 3 3 (gJ o 2 3)) := by
    intro o; rfl
  have en : X_ensureTableF 20 ob = (X_storeTopIntoF 20 (sJ (sJ (sJ (sJ ob 2 0 (lw t 0)) 2 1 (lw t 1)) 2 2 (lw t 2)) 2 3 (lw t 3)) 1).bind fun q6 => some (sI q6 7 1) := by
    unfold X_ensureTableF; rw [if_pos e7, e1, if_neg (by decide)]
    show X_ensureTableF_w26 20 (X_ensureTableF_l26 20 19) ob 1 0 0 = _
    unfold X_ensureTableF_w26
    rw [if_pos (by decide), chk_ok (by decide), ea, stp, bind2_some]
    show X_ensureTableF_w26 20 (X_ensureTableF_l26 20 18) _ 1 1 (0 + 1) = _
    unfold X_ensureTableF_w26
    rw [if_neg (by decide)]
  rw [sto] at en
  have i10 : ¬ (1 : Int32) = 0 := by decide
  obtain ⟨Q, eQ, ⟨w0, w1, w2, w3⟩, h5, h6⟩ : ∃ Q, X_ensureTableF 20 ob = some Q ∧ (gJ Q 3 0 = lw t 0 ∧ gJ Q 3 1 = lw t 1 ∧ gJ Q 3 2 = lw t 2 ∧ gJ Q 3 3 = lw t 3) ∧ gI Q 5 = 0 ∧ gI Q 6 = -1 := ⟨_, en, ⟨rfl, rfl, rfl, rfl⟩, e5, e6⟩
  refine ⟨Q, ?_, h5, h6⟩
  unfold X_evaluate X_completeF
  rw [if_neg hi.1, if_neg hi.2, if_pos e2, Option.bind_some, if_neg i10, eQ, Option.bind_some]
  unfold X_bitOfF
  have hx := ixm i (mem256 hi)
  have hg : gJ Q 3 (ix i) = lw t (ix i) := by
    simp only [List.mem_cons, List.not_mem_nil, or_false] at hx
    rcases hx with h | h | h | h <;> rw [h] <;> assumption
  show ((chk 4 (ix i) (some (bit (gJ Q 3 (ix i)) i))).bind fun r8 => some (r8, Q)) = _
  have hc : 0 ≤ (ix i).toInt ∧ (ix i).toInt < (4 : Int32).toInt := by
    simp only [List.mem_cons, List.not_mem_nil, or_false] at hx
    rcases hx with h | h | h | h <;> rw [h] <;> decide
  rw [chk_ok hc, hg]; rfl
theorem fin_ok (q : Rec) (a b x r1 r2 r3 r4 w : Int32) (v : Int32) (hr : r1 = v) (hl : r2 = if v = 0 then 1 else 0) (hd : r3 = if v = 0 then 1 else 0) (he : r4 = if b < 0 ∨ 255 < b then -1 else if v = 0 then (if a = 8 then 0 else if a = 9 then 1 else ((b >>> (a &&& 31)) &&& 1)) else -5) : L_law_b76 20 q a b r1 r2 r3 r4 0 (-1) v = some 1 := by
  subst hr hl hd he
  unfold L_law_b76 L_law_b86 L_law_b148
  by_cases c : r1 = 0
  · simp only [c, if_true]
    by_cases d1 : b < 0
    · simp [d1]
    · by_cases d2 : 255 < b
      · simp [d1, d2]
      · by_cases d3 : a = 8
        · simp [d1, d2, d3]
        · by_cases d4 : a = 9
          · simp [d1, d2, d4]
          · simp [d1, d2, d3, d4]
  · simp only [c, if_false]
    by_cases d1 : b < 0
    · simp [d1]
    · by_cases d2 : 255 < b
      · simp [d1, d2]
      · simp [d1, d2]
theorem ev_no (ob : Rec) (b : Int32) (h : b < 0 ∨ 255 < b) : X_evaluate 20 ob b = some (-1, ob) := by
  unfold X_evaluate
  by_cases c : b < 0
  · rw [if_pos c]
  · rw [if_neg c, if_pos (h.resolve_left c)]
theorem ev_in (ob : Rec) (b : Int32) (h : ¬ (b < 0 ∨ 255 < b)) (e2 : gI ob 2 = 0) : X_evaluate 20 ob b = some (-5, ob) := by
  unfold X_evaluate X_completeF
  rw [if_neg (fun c => h (Or.inl c)), if_neg (fun c => h (Or.inr c)), e2, if_neg (by decide), Option.bind_some, if_pos rfl]
/-- a refused token -/
theorem own_no (r : Rec) (a b v : Int32) (hv : ¬ v = 0) (e1 : gI r 1 = 0) (e2 : gI r 2 = 0) (e5 : gI r 5 = 0) (e6 : gI r 6 = -1) : (bind2 (X_evaluate 20 r b) fun r22 q23 => (X_lastResult q23).bind fun r25 => (X_witness q23).bind fun r27 => L_law_b76 20 q23 a b v (gI r 1) (gI r 2) r22 r25 r27 v) = some 1 := by
  have h1 : gI r 1 = if v = 0 then 1 else 0 := by rw [if_neg hv, e1]
  have h2 : gI r 2 = if v = 0 then 1 else 0 := by rw [if_neg hv, e2]
  unfold X_lastResult X_witness
  by_cases d : b < 0 ∨ 255 < b
  · rw [ev_no r b d, bind2_some, Option.bind_some, Option.bind_some, e5, e6]
    exact fin_ok r a b 0 v _ _ _ 0 v rfl h1 h2 (by rw [if_pos d])
  · rw [ev_in r b d e2, bind2_some, Option.bind_some, Option.bind_some, e5, e6]
    exact fin_ok r a b 0 v _ _ _ 0 v rfl h1 h2 (by rw [if_neg d, if_neg hv])
theorem owed : ∀ i0 i1 i2 : Int32, ∃ NF : Nat, L_law NF i0 i1 i2 = some 1 := by
  intro i0 a b
  refine ⟨20, ?_⟩
  obtain ⟨r, e, e1, e2, l0, l1, e5, e6, e7, hz⟩ := init_e i0
  have hl : gI r 1 < gI r 0 := by rw [e1, lt_i, t0]; omega
  unfold L_law
  rw [e, Option.bind_some]
  unfold X_length X_depth
  by_cases c1 : a < 0
  · rw [push_out r a (Or.inl c1), bind2_some, Option.bind_some, Option.bind_some]
    simp only [if_pos c1]
    exact own_no r a b (-1) (by decide) e1 e2 e5 e6
  · by_cases c2 : 15 < a
    · rw [push_out r a (Or.inr c2), bind2_some, Option.bind_some, Option.bind_some]
      simp only [if_neg c1, if_pos c2]
      exact own_no r a b (-1) (by decide) e1 e2 e5 e6
    · by_cases c3 : a < 10
      · have c9 : ¬ 9 < a := by rw [lt_i, t9]; rw [lt_i] at c3; have : (10 : Int32).toInt = 10 := rfl; omega
        have art : ar a = 0 := by unfold ar; rw [if_neg c9]
        rw [push_ok r a c1 c2 hl (by rw [e1]; decide) (by rw [e2, art]; decide), bind2_some, Option.bind_some, Option.bind_some]
        simp only [if_neg c1, if_neg c2, if_pos c3]
        rw [e1, e2, art]
        generalize hob : sI (sI (sI (sI (sI (sA r 0 0 a) 1 (0 + 1)) 2 (0 + 1 - 0)) 7 0) 5 0) 6 (-1) = ob
        have g1 : gI ob 1 = 1 := by rw [← hob]; rfl
        have g2 : gI ob 2 = 1 := by rw [← hob]; rfl
        have g5 : gI ob 5 = 0 := by rw [← hob]; rfl
        have g6 : gI ob 6 = -1 := by rw [← hob]; rfl
        have g7 : gI ob 7 = 0 := by rw [← hob]; rfl
        have ga : gA ob 0 0 = a := by rw [← hob]; rfl
        rw [g1, g2]
        unfold X_lastResult X_witness
        by_cases d : b < 0 ∨ 255 < b
        · rw [ev_no ob b d, bind2_some, Option.bind_some, Option.bind_some, g5, g6]
          exact fin_ok ob a b 0 0 1 1 _ 0 0 rfl rfl rfl (by rw [if_pos d])
        · have d' : ¬ b < 0 ∧ ¬ 255 < b := ⟨fun c => d (Or.inl c), fun c => d (Or.inr c)⟩
          obtain ⟨q, eq, q5, q6⟩ := ev_ok ob a b ⟨c1, c9⟩ d' g1 g2 g7 ga g5 g6
          rw [eq, bind2_some, Option.bind_some, Option.bind_some, q5, q6]
          exact fin_ok q a b 0 0 1 1 _ 0 0 rfl rfl rfl (by rw [if_neg d, if_pos rfl]; exact bits a (mem10 ⟨c1, c9⟩) b (mem256 d'))
      · have c9 : 9 < a := by rw [lt_i, t9]; rw [lt_i] at c3; have : (10 : Int32).toInt = 10 := rfl; omega
        have art : (0 : Int32) < ar a := by unfold ar; rw [if_pos c9]; split <;> decide
        rw [push_ar r a c1 c2 hl (by rw [e2]; exact art), bind2_some, Option.bind_some, Option.bind_some]
        simp only [if_neg c1, if_neg c2, if_neg c3]
        exact own_no r a b (-3) (by decide) e1 e2 e5 e6
-- owed : ∀ i0 i1 i2 : Int32, ∃ NF : Nat, L_law NF i0 i1 i2 = some 1
--COMES--
set_option maxRecDepth 65536 in
set_option maxHeartbeats 4000000 in
theorem comes_1 {Post : Tables → Env → Array Value → State → Outcome → State → Prop} (hpost : ∀ tb e args s v u, (limb_1_1.after args s (.returned v) u = true ∧ limb_1_2.after args s (.returned v) u = true ∧ True) → FrameEnd s (.returned v) u (Jvm.fieldLocs frame_1_writes args s ++ Jvm.arrayLocs frame_1_arrays args s ++ Jvm.staticLocs frame_1_statics s) 24 512 → Post tb e args s (.returned v) u) :
    ArmFor flags0 classFile x code maxLocals ret World_1 tables_1 room_1 Calls_1 rest_1 Pre_1 Post := by
  intro l hfl _ _ p e ha hc hk s m args below hf hA hF happ hP
  obtain ⟨hcalls, hrest, hpre⟩ := hP
  obtain ⟨-, -, -, hnamed, -, -, -, hat⟩ := (Spec.applies_iff hf).mp happ
  obtain ⟨hg, hn⟩ := and_e (Cond.before_iff.mp (show (Jvm.Cond.and given_1 narrow_1).before args s = true from hpre))
  obtain ⟨hcnt, hg⟩ := and_e hg
  obtain ⟨w0, w1, w2, rfl⟩ : ∃ w0 w1 w2 : Value, args = #[w0, w1, w2] := by
    have hs : args.size = 3 := by simpa [Cond.value, given_1] using hcnt
    obtain ⟨L⟩ := args
    match L, hs with
    | [w0, w1, w2], _ => exact ⟨w0, w1, w2, rfl⟩
  have hw := fun d (hd : d ∈ tables_1) => atoms_spec (ws := Jvm.Cond.code x code maxLocals ret :: tables_1) hat d (List.mem_cons_of_mem _ hd)
  have hfit : Fit s := fun {y c} hc i hi => by
    obtain ⟨ha, rfl⟩ := Array.getElem?_eq_some_iff.mp hc
    have q := List.all_eq_true.mp ((Array.all_eq_true_iff_forall_mem.mp hF) _ (Array.getElem_mem ha)) i (List.mem_range.mpr hi)
    simpa [Array.getElem?_eq_getElem hi] using q
  obtain ⟨h0, hg⟩ := and_e hg
  obtain ⟨i0, e0⟩ := is_v h0
  obtain rfl : w0 = (.int i0) := Option.some.inj e0
  obtain ⟨h1, hg⟩ := and_e hg
  obtain ⟨i1, e1⟩ := is_v h1
  obtain rfl : w1 = (.int i1) := Option.some.inj e1
  have h2 := hg
  obtain ⟨i2, e2⟩ := is_v h2
  obtain rfl : w2 = (.int i2) := Option.some.inj e2
  obtain ⟨NF, hlaw⟩ := owed i0 i1 i2
  have hp := L_law_pay (C := (l, s, s.heap.size, #[.int i0, .int i1, .int i2])) hlaw hw s.heap (Rep.start s) tables_1
  obtain ⟨n, o, h1, h2, h3, v, L, rfl, ⟨N, G', -, rfl⟩, hq⟩ := hp p e ha hc hk s m _ below hf ((Spec.applies_iff_loose hf).mp happ).1 ⟨rfl, State.Warmed39.refl s, rfl⟩ trivial
  refine ⟨n, _, h1, h2, h3, hpost _ _ _ _ _ _ ⟨Cond.after_iff.mpr rfl, Cond.after_iff.mpr (eq_i res_at (Term.int_eval (1)) rfl), trivial⟩ ⟨hq.1, hq.2.1, (hq.2.2.sift fun y hy => Or.inr (N y hy)).mono (by decide) (by decide)⟩⟩
theorem main_1_1 : Claimed_1_1 := comes_1 fun _ _ _ _ _ _ h hF => ⟨h.1, hF⟩
theorem main_1_2 : Claimed_1_2 := comes_1 fun _ _ _ _ _ _ h hF => ⟨h.2.1, hF⟩
end Jvm.Pilot.@@N@@
namespace Jvm.Pilot.@@N@@
open Jvm Jvm.ClassFile Sem Op Lib Jvm.Free Jvm.Stand Jvm.Pilot.@@N@@.Jvm.D
/-! MADE BY PROGRAM (witnessworld.py) out of the Statement's table words and the real class files: 11 classes; the members and pool entries that the words name. The judged class is class 1, her method 1. -/
namespace start1
open Jvm.ClassFile
def u (s : String) : CpInfo := .utf8 (stringToUtf16 s)
/-- a pool by its gaps: so many unusable entries, then the entry; so many at the end -/
def gap : Nat → List CpInfo → List CpInfo
  | 0, r => r
  | n + 1, r => .unusable :: gap n r
def poolList (es : List (Nat × CpInfo)) (last : Nat) : List CpInfo := es.foldr (fun e r => gap e.1 (e.2 :: r)) (gap last [])
def pool (es : List (Nat × CpInfo)) (last : Nat) : Array CpInfo := ⟨poolList es last⟩
def fileOf (pool : Array CpInfo) (this : Nat) (attrs : Array Attribute := #[]) (ms : Array MethodInfo := #[]) (fl : Nat := 33) (sup : Nat := 0) (ifs : Array Nat := #[]) (fds : Array FieldInfo := #[]) : ClassFile where
  minorVersion := 0
  majorVersion := 65
  constantPool := pool
  accessFlags := fl
  thisClass := this
  superClass := sup
  interfaces := ifs
  fields := fds
  methods := ms
  attributes := attrs
def plain (name : String) (sup : Option ClassId) : Class where
  name := name
  kind := .ordinary
  loader := none
  accessFlags := 33
  super := sup
  interfaces := #[]
  cf := none
  fields := #[]
  methods := #[]
  instanceTypes := #[]
  staticTypes := #[]
  resolved := #[]
  callSites := []
  init := .initialized
  statics := none
  mirror := none

def pool0 : Array CpInfo := pool [(5, u "<init>"), (0, u "()V"), (1, .class_ 10), (1, u "java/lang/Object")] 113

def k0c0 : Code := { maxStack := 0, maxLocals := 1, code := object_method_1_code, exceptionTable := #[], attributes := #[] }
def k0m0 : Method := { name := "<init>", desc := "()V", sig := { parameters := [], returnType := none }, accessFlags := 1, code := some k0c0 }
/-- java/lang/Object -/
def k0 : Class := { plain "java/lang/Object" none with
  accessFlags := 33
  interfaces := #[]
  cf := some (fileOf pool0 8 #[] #[{ accessFlags := 1, nameIndex := 5, descriptorIndex := 6, attributes := #[] }] 33 0 #[] #[])
  fields := #[]
  methods := #[k0m0]
  instanceTypes := #[]
  staticTypes := #[]
  resolved := Array.replicate 124 none
  statics := none }

def pool1 : Array CpInfo := pool [(2, .class_ 4), (1, u "java/lang/Object"), (0, u "<init>"), (0, u "()V"), (0, .class_ 8), (0, u "SaturProver"), (0, .methodref 7 10), (0, .nameAndType 5 11), (0, u "(I)V"), (0, .methodref 7 13), (0, .nameAndType 14 15), (0, u "pushToken"), (0, u "(I)I"), (0, .methodref 7 17), (0, .nameAndType 18 19), (0, u "length"), (0, u "()I"), (0, .methodref 7 21), (0, .nameAndType 22 19), (0, u "depth"), (0, .methodref 7 24), (0, .nameAndType 25 15), (0, u "evaluate"), (0, .methodref 7 27), (0, .nameAndType 28 19), (0, u "lastResult"), (0, .methodref 7 30), (0, .nameAndType 31 19), (0, u "witness"), (0, .class_ 33), (0, u "SaturProverL1"), (2, u "law"), (0, u "(III)Z")] 3

def k1m0 : Method := { name := "<init>", desc := "()V", sig := { parameters := [], returnType := none }, accessFlags := 1, code := none }
def k1c1 : Code := { maxStack := 3, maxLocals := 13, code := code, exceptionTable := #[], attributes := #[] }
def k1m1 : Method := { name := "law", desc := "(III)Z", sig := { parameters := [.int, .int, .int], returnType := some .boolean }, accessFlags := 9, code := some k1c1 }
/-- SaturProverL1 -/
def k1 : Class := { plain "SaturProverL1" (some 0) with
  accessFlags := 49
  interfaces := #[]
  cf := some (fileOf pool1 32 #[] #[{ accessFlags := 1, nameIndex := 5, descriptorIndex := 6, attributes := #[] }, { accessFlags := 9, nameIndex := 36, descriptorIndex := 37, attributes := #[] }] 49 2 #[] #[])
  fields := #[]
  methods := #[k1m0, k1m1]
  instanceTypes := #[]
  staticTypes := #[]
  resolved := Array.replicate 41 none
  statics := none }

def pool2 : Array CpInfo := pool [(1, .methodref 2 3), (0, .class_ 4), (0, .nameAndType 5 6), (0, u "java/lang/Object"), (0, u "<init>"), (0, u "()V"), (0, .fieldref 8 9), (0, .class_ 10), (0, .nameAndType 11 12), (0, u "SaturProver"), (0, u "toks"), (0, u "[I"), (0, .fieldref 8 14), (0, .nameAndType 15 12), (0, u "saved"), (0, .fieldref 8 17), (0, .nameAndType 18 19), (0, u "stk"), (0, u "[J"), (0, .fieldref 8 21), (0, .nameAndType 22 19), (0, u "tabF"), (0, .fieldref 8 24), (0, .nameAndType 25 19), (0, u "tabS"), (0, .fieldref 8 27), (0, .nameAndType 28 19), (0, u "work"), (0, .fieldref 8 30), (0, .nameAndType 31 32), (0, u "cap"), (0, u "I"), (0, .fieldref 8 34), (0, .nameAndType 35 32), (0, u "n"), (0, .fieldref 8 37), (0, .nameAndType 38 32), (0, u "dep"), (0, .fieldref 8 40), (0, .nameAndType 41 32), (0, u "sn"), (0, .fieldref 8 43), (0, .nameAndType 44 45), (0, u "hasSaved"), (0, u "Z"), (0, .fieldref 8 47), (0, .nameAndType 48 45), (0, u "fValid"), (0, .methodref 8 50), (0, .nameAndType 51 6), (0, u "resetResult"), (0, .methodref 8 53), (0, .nameAndType 54 55), (0, u "arity"), (0, u "(I)I"), (0, .methodref 8 57), (0, .nameAndType 58 59), (0, u "completeF"), (0, u "()Z"), (3, .methodref 8 64), (0, .nameAndType 65 6), (0, u "ensureTableF"), (3, .methodref 8 70), (0, .nameAndType 71 55), (0, u "bitOfF"), (6, u "()I"), (3, u "(II)V"), (6, .fieldref 8 90), (0, .nameAndType 91 32), (0, u "res"), (0, .fieldref 8 93), (0, .nameAndType 94 32), (0, u "wit"), (0, .methodref 8 96), (0, .nameAndType 97 98), (0, u "step"), (0, u "(II)I"), (0, .methodref 8 100), (0, .nameAndType 101 102), (0, u "storeTopIntoF"), (0, u "(I)V"), (0, .methodref 8 104), (0, .nameAndType 105 82), (0, u "pushLeaf"), (6, .methodref 8 113), (0, .nameAndType 114 115), (0, u "leafWord"), (0, u "(II)J"), (0, .long 18446744073709551615), (5, .methodref 8 123), (0, .nameAndType 124 115), (0, u "varWord"), (0, .long 12297829382473034410), (1, .long 14757395258967641292), (1, .long 17361641481138401520), (1, .long 18374966859414961920), (1, .long 18446462603027742720), (1, .long 18446744069414584320), (5, u "OK"), (2, u "ERR_ARG"), (1, u "ERR_FULL"), (1, u "ERR_UNDERFLOW"), (1, u "ERR_EMPTY"), (1, u "ERR_INCOMPLETE"), (1, u "ERR_NOSAVED"), (1, u "NONE"), (0, u "TAUTOLOGY"), (1, u "FALSIFIABLE"), (1, u "SATISFIABLE"), (1, u "UNSATISFIABLE"), (1, u "EQUIVALENT"), (1, u "DIFFERENT"), (1, u "T_FALSE"), (1, u "T_TRUE"), (1, u "T_NOT"), (1, u "T_AND"), (1, u "T_OR"), (1, u "T_IMP"), (1, u "T_EQV"), (1, u "T_XOR"), (1, u "NUM_VARS"), (0, u "NUM_MASKS"), (4, u "pushToken"), (3, u "length"), (1, u "depth"), (3, u "evaluate"), (3, u "lastResult"), (0, u "witness")] 2

def k2c0 : Code := { maxStack := 2, maxLocals := 3, code := prog_1_method_1_code, exceptionTable := #[], attributes := #[] }
def k2m0 : Method := { name := "<init>", desc := "(I)V", sig := { parameters := [.int], returnType := none }, accessFlags := 1, code := some k2c0 }
def k2c1 : Code := { maxStack := 3, maxLocals := 3, code := prog_1_method_2_code, exceptionTable := #[], attributes := #[] }
def k2m1 : Method := { name := "pushToken", desc := "(I)I", sig := { parameters := [.int], returnType := some .int }, accessFlags := 1, code := some k2c1 }
def k2c2 : Code := { maxStack := 1, maxLocals := 1, code := prog_1_method_6_code, exceptionTable := #[], attributes := #[] }
def k2m2 : Method := { name := "length", desc := "()I", sig := { parameters := [], returnType := some .int }, accessFlags := 1, code := some k2c2 }
def k2c3 : Code := { maxStack := 1, maxLocals := 1, code := prog_1_method_8_code, exceptionTable := #[], attributes := #[] }
def k2m3 : Method := { name := "depth", desc := "()I", sig := { parameters := [], returnType := some .int }, accessFlags := 1, code := some k2c3 }
def k2c4 : Code := { maxStack := 2, maxLocals := 2, code := prog_1_method_12_code, exceptionTable := #[], attributes := #[] }
def k2m4 : Method := { name := "evaluate", desc := "(I)I", sig := { parameters := [.int], returnType := some .int }, accessFlags := 1, code := some k2c4 }
def k2c5 : Code := { maxStack := 1, maxLocals := 1, code := prog_1_method_16_code, exceptionTable := #[], attributes := #[] }
def k2m5 : Method := { name := "lastResult", desc := "()I", sig := { parameters := [], returnType := some .int }, accessFlags := 1, code := some k2c5 }
def k2c6 : Code := { maxStack := 1, maxLocals := 1, code := prog_1_method_17_code, exceptionTable := #[], attributes := #[] }
def k2m6 : Method := { name := "witness", desc := "()I", sig := { parameters := [], returnType := some .int }, accessFlags := 1, code := some k2c6 }
def k2c7 : Code := { maxStack := 2, maxLocals := 1, code := prog_1_method_18_code, exceptionTable := #[], attributes := #[] }
def k2m7 : Method := { name := "completeF", desc := "()Z", sig := { parameters := [], returnType := some .boolean }, accessFlags := 2, code := some k2c7 }
def k2c8 : Code := { maxStack := 2, maxLocals := 1, code := prog_1_method_19_code, exceptionTable := #[], attributes := #[] }
def k2m8 : Method := { name := "resetResult", desc := "()V", sig := { parameters := [], returnType := none }, accessFlags := 2, code := some k2c8 }
def k2c9 : Code := { maxStack := 2, maxLocals := 2, code := prog_1_method_21_code, exceptionTable := #[], attributes := #[] }
def k2m9 : Method := { name := "arity", desc := "(I)I", sig := { parameters := [.int], returnType := some .int }, accessFlags := 2, code := some k2c9 }
def k2c10 : Code := { maxStack := 3, maxLocals := 4, code := prog_1_method_24_code, exceptionTable := #[], attributes := #[] }
def k2m10 : Method := { name := "ensureTableF", desc := "()V", sig := { parameters := [], returnType := none }, accessFlags := 2, code := some k2c10 }
def k2c11 : Code := { maxStack := 4, maxLocals := 5, code := prog_1_method_25_code, exceptionTable := #[], attributes := #[] }
def k2m11 : Method := { name := "storeTopIntoF", desc := "(I)V", sig := { parameters := [.int], returnType := none }, accessFlags := 2, code := some k2c11 }
def k2c12 : Code := { maxStack := 4, maxLocals := 4, code := prog_1_method_26_code, exceptionTable := #[], attributes := #[] }
def k2m12 : Method := { name := "step", desc := "(II)I", sig := { parameters := [.int, .int], returnType := some .int }, accessFlags := 2, code := some k2c12 }
def k2c13 : Code := { maxStack := 5, maxLocals := 5, code := prog_1_method_27_code, exceptionTable := #[], attributes := #[] }
def k2m13 : Method := { name := "pushLeaf", desc := "(II)V", sig := { parameters := [.int, .int], returnType := none }, accessFlags := 2, code := some k2c13 }
def k2c14 : Code := { maxStack := 3, maxLocals := 3, code := prog_1_method_31_code, exceptionTable := #[], attributes := #[] }
def k2m14 : Method := { name := "leafWord", desc := "(II)J", sig := { parameters := [.int, .int], returnType := some .long }, accessFlags := 2, code := some k2c14 }
def k2c15 : Code := { maxStack := 2, maxLocals := 3, code := prog_1_method_32_code, exceptionTable := #[], attributes := #[] }
def k2m15 : Method := { name := "varWord", desc := "(II)J", sig := { parameters := [.int, .int], returnType := some .long }, accessFlags := 2, code := some k2c15 }
def k2c16 : Code := { maxStack := 4, maxLocals := 5, code := prog_1_method_33_code, exceptionTable := #[], attributes := #[] }
def k2m16 : Method := { name := "bitOfF", desc := "(I)I", sig := { parameters := [.int], returnType := some .int }, accessFlags := 2, code := some k2c16 }
/-- SaturProver -/
def k2 : Class := { plain "SaturProver" (some 0) with
  accessFlags := 49
  interfaces := #[]
  cf := some (fileOf pool2 8 #[] #[{ accessFlags := 1, nameIndex := 5, descriptorIndex := 102, attributes := #[] }, { accessFlags := 1, nameIndex := 191, descriptorIndex := 55, attributes := #[] }, { accessFlags := 1, nameIndex := 195, descriptorIndex := 78, attributes := #[] }, { accessFlags := 1, nameIndex := 197, descriptorIndex := 78, attributes := #[] }, { accessFlags := 1, nameIndex := 201, descriptorIndex := 55, attributes := #[] }, { accessFlags := 1, nameIndex := 205, descriptorIndex := 78, attributes := #[] }, { accessFlags := 1, nameIndex := 206, descriptorIndex := 78, attributes := #[] }, { accessFlags := 2, nameIndex := 58, descriptorIndex := 59, attributes := #[] }, { accessFlags := 2, nameIndex := 51, descriptorIndex := 6, attributes := #[] }, { accessFlags := 2, nameIndex := 54, descriptorIndex := 55, attributes := #[] }, { accessFlags := 2, nameIndex := 65, descriptorIndex := 6, attributes := #[] }, { accessFlags := 2, nameIndex := 101, descriptorIndex := 102, attributes := #[] }, { accessFlags := 2, nameIndex := 97, descriptorIndex := 98, attributes := #[] }, { accessFlags := 2, nameIndex := 105, descriptorIndex := 82, attributes := #[] }, { accessFlags := 2, nameIndex := 114, descriptorIndex := 115, attributes := #[] }, { accessFlags := 2, nameIndex := 124, descriptorIndex := 115, attributes := #[] }, { accessFlags := 2, nameIndex := 71, descriptorIndex := 55, attributes := #[] }] 49 2 #[] #[{ accessFlags := 25, nameIndex := 141, descriptorIndex := 32, attributes := #[] }, { accessFlags := 25, nameIndex := 144, descriptorIndex := 32, attributes := #[] }, { accessFlags := 25, nameIndex := 146, descriptorIndex := 32, attributes := #[] }, { accessFlags := 25, nameIndex := 148, descriptorIndex := 32, attributes := #[] }, { accessFlags := 25, nameIndex := 150, descriptorIndex := 32, attributes := #[] }, { accessFlags := 25, nameIndex := 152, descriptorIndex := 32, attributes := #[] }, { accessFlags := 25, nameIndex := 154, descriptorIndex := 32, attributes := #[] }, { accessFlags := 25, nameIndex := 156, descriptorIndex := 32, attributes := #[] }, { accessFlags := 25, nameIndex := 157, descriptorIndex := 32, attributes := #[] }, { accessFlags := 25, nameIndex := 159, descriptorIndex := 32, attributes := #[] }, { accessFlags := 25, nameIndex := 161, descriptorIndex := 32, attributes := #[] }, { accessFlags := 25, nameIndex := 163, descriptorIndex := 32, attributes := #[] }, { accessFlags := 25, nameIndex := 165, descriptorIndex := 32, attributes := #[] }, { accessFlags := 25, nameIndex := 167, descriptorIndex := 32, attributes := #[] }, { accessFlags := 25, nameIndex := 169, descriptorIndex := 32, attributes := #[] }, { accessFlags := 25, nameIndex := 171, descriptorIndex := 32, attributes := #[] }, { accessFlags := 25, nameIndex := 173, descriptorIndex := 32, attributes := #[] }, { accessFlags := 25, nameIndex := 175, descriptorIndex := 32, attributes := #[] }, { accessFlags := 25, nameIndex := 177, descriptorIndex := 32, attributes := #[] }, { accessFlags := 25, nameIndex := 179, descriptorIndex := 32, attributes := #[] }, { accessFlags := 25, nameIndex := 181, descriptorIndex := 32, attributes := #[] }, { accessFlags := 25, nameIndex := 183, descriptorIndex := 32, attributes := #[] }, { accessFlags := 25, nameIndex := 185, descriptorIndex := 32, attributes := #[] }, { accessFlags := 25, nameIndex := 186, descriptorIndex := 32, attributes := #[] }, { accessFlags := 2, nameIndex := 31, descriptorIndex := 32, attributes := #[] }, { accessFlags := 18, nameIndex := 11, descriptorIndex := 12, attributes := #[] }, { accessFlags := 2, nameIndex := 35, descriptorIndex := 32, attributes := #[] }, { accessFlags := 2, nameIndex := 38, descriptorIndex := 32, attributes := #[] }, { accessFlags := 18, nameIndex := 15, descriptorIndex := 12, attributes := #[] }, { accessFlags := 2, nameIndex := 41, descriptorIndex := 32, attributes := #[] }, { accessFlags := 2, nameIndex := 44, descriptorIndex := 45, attributes := #[] }, { accessFlags := 2, nameIndex := 91, descriptorIndex := 32, attributes := #[] }, { accessFlags := 2, nameIndex := 94, descriptorIndex := 32, attributes := #[] }, { accessFlags := 18, nameIndex := 18, descriptorIndex := 19, attributes := #[] }, { accessFlags := 18, nameIndex := 22, descriptorIndex := 19, attributes := #[] }, { accessFlags := 18, nameIndex := 25, descriptorIndex := 19, attributes := #[] }, { accessFlags := 2, nameIndex := 48, descriptorIndex := 45, attributes := #[] }, { accessFlags := 18, nameIndex := 28, descriptorIndex := 19, attributes := #[] }])
  fields := #[{ name := "OK", type := .int, accessFlags := 25, slot := 0, constantValue := 0 }, { name := "ERR_ARG", type := .int, accessFlags := 25, slot := 1, constantValue := 0 }, { name := "ERR_FULL", type := .int, accessFlags := 25, slot := 2, constantValue := 0 }, { name := "ERR_UNDERFLOW", type := .int, accessFlags := 25, slot := 3, constantValue := 0 }, { name := "ERR_EMPTY", type := .int, accessFlags := 25, slot := 4, constantValue := 0 }, { name := "ERR_INCOMPLETE", type := .int, accessFlags := 25, slot := 5, constantValue := 0 }, { name := "ERR_NOSAVED", type := .int, accessFlags := 25, slot := 6, constantValue := 0 }, { name := "NONE", type := .int, accessFlags := 25, slot := 7, constantValue := 0 }, { name := "TAUTOLOGY", type := .int, accessFlags := 25, slot := 8, constantValue := 0 }, { name := "FALSIFIABLE", type := .int, accessFlags := 25, slot := 9, constantValue := 0 }, { name := "SATISFIABLE", type := .int, accessFlags := 25, slot := 10, constantValue := 0 }, { name := "UNSATISFIABLE", type := .int, accessFlags := 25, slot := 11, constantValue := 0 }, { name := "EQUIVALENT", type := .int, accessFlags := 25, slot := 12, constantValue := 0 }, { name := "DIFFERENT", type := .int, accessFlags := 25, slot := 13, constantValue := 0 }, { name := "T_FALSE", type := .int, accessFlags := 25, slot := 14, constantValue := 0 }, { name := "T_TRUE", type := .int, accessFlags := 25, slot := 15, constantValue := 0 }, { name := "T_NOT", type := .int, accessFlags := 25, slot := 16, constantValue := 0 }, { name := "T_AND", type := .int, accessFlags := 25, slot := 17, constantValue := 0 }, { name := "T_OR", type := .int, accessFlags := 25, slot := 18, constantValue := 0 }, { name := "T_IMP", type := .int, accessFlags := 25, slot := 19, constantValue := 0 }, { name := "T_EQV", type := .int, accessFlags := 25, slot := 20, constantValue := 0 }, { name := "T_XOR", type := .int, accessFlags := 25, slot := 21, constantValue := 0 }, { name := "NUM_VARS", type := .int, accessFlags := 25, slot := 22, constantValue := 0 }, { name := "NUM_MASKS", type := .int, accessFlags := 25, slot := 23, constantValue := 0 }, { name := "cap", type := .int, accessFlags := 2, slot := 0, constantValue := 0 }, { name := "toks", type := (.array .int), accessFlags := 18, slot := 1, constantValue := 0 }, { name := "n", type := .int, accessFlags := 2, slot := 2, constantValue := 0 }, { name := "dep", type := .int, accessFlags := 2, slot := 3, constantValue := 0 }, { name := "saved", type := (.array .int), accessFlags := 18, slot := 4, constantValue := 0 }, { name := "sn", type := .int, accessFlags := 2, slot := 5, constantValue := 0 }, { name := "hasSaved", type := .boolean, accessFlags := 2, slot := 6, constantValue := 0 }, { name := "res", type := .int, accessFlags := 2, slot := 7, constantValue := 0 }, { name := "wit", type := .int, accessFlags := 2, slot := 8, constantValue := 0 }, { name := "stk", type := (.array .long), accessFlags := 18, slot := 9, constantValue := 0 }, { name := "tabF", type := (.array .long), accessFlags := 18, slot := 10, constantValue := 0 }, { name := "tabS", type := (.array .long), accessFlags := 18, slot := 11, constantValue := 0 }, { name := "fValid", type := .boolean, accessFlags := 2, slot := 12, constantValue := 0 }, { name := "work", type := (.array .long), accessFlags := 18, slot := 13, constantValue := 0 }]
  methods := #[k2m0, k2m1, k2m2, k2m3, k2m4, k2m5, k2m6, k2m7, k2m8, k2m9, k2m10, k2m11, k2m12, k2m13, k2m14, k2m15, k2m16]
  instanceTypes := #[.int, (.array .int), .int, .int, (.array .int), .int, .boolean, .int, .int, (.array .long), (.array .long), (.array .long), .boolean, (.array .long)]
  staticTypes := #[.int, .int, .int, .int, .int, .int, .int, .int, .int, .int, .int, .int, .int, .int, .int, .int, .int, .int, .int, .int, .int, .int, .int, .int]
  resolved := Array.replicate 209 none
  statics := none }

def pool3 : Array CpInfo := pool [(1, u "java/lang/Cloneable"), (0, .class_ 1), (0, u "java/lang/Object"), (0, .class_ 3)] 3

/-- java/lang/Cloneable -/
def k3 : Class := { plain "java/lang/Cloneable" (some 0) with
  accessFlags := 1537
  interfaces := #[]
  cf := some (fileOf pool3 2 #[] #[] 1537 4 #[] #[])
  fields := #[]
  methods := #[]
  instanceTypes := #[]
  staticTypes := #[]
  resolved := Array.replicate 8 none
  statics := none }

def pool4 : Array CpInfo := pool [(1, u "java/io/Serializable"), (0, .class_ 1), (0, u "java/lang/Object"), (0, .class_ 3)] 3

/-- java/io/Serializable -/
def k4 : Class := { plain "java/io/Serializable" (some 0) with
  accessFlags := 1537
  interfaces := #[]
  cf := some (fileOf pool4 2 #[] #[] 1537 4 #[] #[])
  fields := #[]
  methods := #[]
  instanceTypes := #[]
  staticTypes := #[]
  resolved := Array.replicate 8 none
  statics := none }

/-- the primitive byte -/
def k5 : Class := { plain "byte" none with kind := .primitive 'B', accessFlags := 0x411 }
/-- [B -/
def k6 : Class := { plain "[B" (some 0) with kind := .array 5 .byte, interfaces := #[3, 4], accessFlags := 1041 }

/-- the primitive int -/
def k7 : Class := { plain "int" none with kind := .primitive 'I', accessFlags := 0x411 }
/-- [I -/
def k8 : Class := { plain "[I" (some 0) with kind := .array 7 .int, interfaces := #[3, 4], accessFlags := 1041 }

/-- the primitive long -/
def k9 : Class := { plain "long" none with kind := .primitive 'J', accessFlags := 0x411 }
/-- [J -/
def k10 : Class := { plain "[J" (some 0) with kind := .array 9 .long, interfaces := #[3, 4], accessFlags := 1041 }

def heap : Heap := #[]
def classes : Array Class := #[k0, k1, k2, k3, k4, k5, k6, k7, k8, k9, k10]
def interned : List (Array UInt16 × Addr) := []
def slotsUsed : Nat := 0
def theMethod : MethodId := ⟨1, 1⟩
def args0 : Array Value := #[.int 9, .int 3, .int 20]
def aboutOver (below : List Frame) : State where
  vm := { classes := classes, interned := interned.toArray }
  heap := heap
  slotsUsed := slotsUsed
  threads := #[{ frames := .invoking theMethod args0 :: below }]
def below0 : List Frame := [.native { method := ⟨0, 0⟩, args := #[] }]
def about1 : State := aboutOver below0
def p0 : Program := .bare "" "" ""
def e0 : Env := launch0.env 0 0 0
theorem w_frames : about1.frames = Frame.invoking theMethod args0 :: below0 := rfl
set_option maxRecDepth 65536 in
theorem w_args : argsFit about1.vm theMethod args0 = true := by decide +kernel
set_option maxRecDepth 65536 in
theorem w_heap : heapFits about1 = true := by decide +kernel
set_option maxRecDepth 65536 in
theorem w_runnable : about1.curStatus? = some .runnable := by decide +kernel
set_option maxRecDepth 65536 in
theorem w_alone : about1.alone = true := by decide +kernel
set_option maxRecDepth 65536 in
theorem w_named : about1.methodNamed? x = some theMethod := by decide +kernel
set_option maxRecDepth 65536 in
theorem w_hears : about1.hears theMethod below0 = true := by decide +kernel
set_option maxRecDepth 65536 in
theorem w_ripe : about1.ripe theMethod args0 below0 = true := by decide +kernel
theorem w_running : about1.status = .running := rfl
set_option maxRecDepth 65536 in
theorem w_room : about1.hasRoom e0.platform room_1 = true :=
  launch0.hasRoom_least _ room_1 (by decide +kernel) (by decide +kernel) (by decide +kernel) (by decide +kernel) (by decide +kernel) (by decide +kernel)
theorem allAtoms_all (ts : List Jvm.Cond) (a : Array Jvm.Value) (st : Jvm.State) : (allAtoms ts).before a st = ts.all (fun c => c.before a st) := by
  induction ts with
  | nil => rfl
  | cons c t ih =>
    show (Jvm.Cond.and c (allAtoms t)).before a st = _
    rw [Jvm.Cond.before_and, ih, List.all_cons]
def words1 : List Jvm.Cond := Jvm.Cond.code x code maxLocals ret :: tables_1
/-- a 'code' word, met by the world's own term for the bytes: nothing is compared byte by byte -/
theorem code_word {y : MethodName} {bytes : ByteArray} {mx : Nat} {rt : Option FieldType} {a : Array Value} {s : State} {m : MethodId} {meth : Method} {c : Code} (h1 : s.methodNamed? y = some m) (h2 : s.vm.method? m = some meth) (h3 : meth.code = some c) (h4 : c.code = bytes)
    (h5 : (c.maxLocals == mx && c.exceptionTable.isEmpty && decide (c.maxStack ≤ mostOperands) && decide (meth.sig.returnType = rt) && !meth.locks && decide (parseMethodDescriptor y.desc = some meth.sig)) = true) : (Jvm.Cond.code y bytes mx rt).before a s = true := by
  simp only [Bool.and_eq_true, beq_iff_eq, Bool.not_eq_true', decide_eq_true_eq] at h5
  obtain ⟨⟨⟨⟨⟨g1, g2⟩, g3⟩, g4⟩, g5⟩, g6⟩ := h5
  simp [Cond.before, Cond.holds, Cond.value, h1, h2, h3, h4, g1, g2, g3, g4, g5, g6]
def isCode : Jvm.Cond → Bool
  | .code _ _ _ _ => true
  | _ => false
theorem all_split {L : List Jvm.Cond} {P : Jvm.Cond → Bool} (h1 : L.all (fun c => isCode c || P c) = true) (h2 : ∀ c ∈ L.filter isCode, P c = true) : L.all P = true := by
  refine List.all_eq_true.mpr fun c hc => ?_
  have h := List.all_eq_true.mp h1 c hc
  rcases Bool.eq_false_or_eq_true (isCode c) with hi | hi
  · exact h2 c (List.mem_filter.mpr ⟨hc, hi⟩)
  · simpa [hi] using h
set_option maxRecDepth 65536 in
theorem w_c0 : (Jvm.Cond.code x code maxLocals ret).before args0 about1 = true := code_word (m := ⟨1, 1⟩) (meth := k1m1) (c := k1c1) (by decide +kernel) rfl rfl rfl (by decide +kernel)
set_option maxRecDepth 65536 in
theorem w_c1 : (Jvm.Cond.code ({ cls := "SaturProver", name := "<init>", desc := "(I)V" } : Jvm.MethodName) prog_1_method_1_code (3 : Nat) (Option.none : Option Jvm.ClassFile.FieldType)).before args0 about1 = true := code_word (m := ⟨2, 0⟩) (meth := k2m0) (c := k2c0) (by decide +kernel) rfl rfl rfl (by decide +kernel)
set_option maxRecDepth 65536 in
theorem w_c2 : (Jvm.Cond.code ({ cls := "java/lang/Object", name := "<init>", desc := "()V" } : Jvm.MethodName) object_method_1_code (1 : Nat) (Option.none : Option Jvm.ClassFile.FieldType)).before args0 about1 = true := code_word (m := ⟨0, 0⟩) (meth := k0m0) (c := k0c0) (by decide +kernel) rfl rfl rfl (by decide +kernel)
set_option maxRecDepth 65536 in
theorem w_c3 : (Jvm.Cond.code ({ cls := "SaturProver", name := "resetResult", desc := "()V" } : Jvm.MethodName) prog_1_method_19_code (1 : Nat) (Option.none : Option Jvm.ClassFile.FieldType)).before args0 about1 = true := code_word (m := ⟨2, 8⟩) (meth := k2m8) (c := k2c8) (by decide +kernel) rfl rfl rfl (by decide +kernel)
set_option maxRecDepth 65536 in
theorem w_c4 : (Jvm.Cond.code ({ cls := "SaturProver", name := "pushToken", desc := "(I)I" } : Jvm.MethodName) prog_1_method_2_code (3 : Nat) (Option.some Jvm.ClassFile.FieldType.int)).before args0 about1 = true := code_word (m := ⟨2, 1⟩) (meth := k2m1) (c := k2c1) (by decide +kernel) rfl rfl rfl (by decide +kernel)
set_option maxRecDepth 65536 in
theorem w_c5 : (Jvm.Cond.code ({ cls := "SaturProver", name := "arity", desc := "(I)I" } : Jvm.MethodName) prog_1_method_21_code (2 : Nat) (Option.some Jvm.ClassFile.FieldType.int)).before args0 about1 = true := code_word (m := ⟨2, 9⟩) (meth := k2m9) (c := k2c9) (by decide +kernel) rfl rfl rfl (by decide +kernel)
set_option maxRecDepth 65536 in
theorem w_c6 : (Jvm.Cond.code ({ cls := "SaturProver", name := "length", desc := "()I" } : Jvm.MethodName) prog_1_method_6_code (1 : Nat) (Option.some Jvm.ClassFile.FieldType.int)).before args0 about1 = true := code_word (m := ⟨2, 2⟩) (meth := k2m2) (c := k2c2) (by decide +kernel) rfl rfl rfl (by decide +kernel)
set_option maxRecDepth 65536 in
theorem w_c7 : (Jvm.Cond.code ({ cls := "SaturProver", name := "depth", desc := "()I" } : Jvm.MethodName) prog_1_method_8_code (1 : Nat) (Option.some Jvm.ClassFile.FieldType.int)).before args0 about1 = true := code_word (m := ⟨2, 3⟩) (meth := k2m3) (c := k2c3) (by decide +kernel) rfl rfl rfl (by decide +kernel)
set_option maxRecDepth 65536 in
theorem w_c8 : (Jvm.Cond.code ({ cls := "SaturProver", name := "evaluate", desc := "(I)I" } : Jvm.MethodName) prog_1_method_12_code (2 : Nat) (Option.some Jvm.ClassFile.FieldType.int)).before args0 about1 = true := code_word (m := ⟨2, 4⟩) (meth := k2m4) (c := k2c4) (by decide +kernel) rfl rfl rfl (by decide +kernel)
set_option maxRecDepth 65536 in
theorem w_c9 : (Jvm.Cond.code ({ cls := "SaturProver", name := "completeF", desc := "()Z" } : Jvm.MethodName) prog_1_method_18_code (1 : Nat) (Option.some Jvm.ClassFile.FieldType.boolean)).before args0 about1 = true := code_word (m := ⟨2, 7⟩) (meth := k2m7) (c := k2c7) (by decide +kernel) rfl rfl rfl (by decide +kernel)
set_option maxRecDepth 65536 in
theorem w_c10 : (Jvm.Cond.code ({ cls := "SaturProver", name := "ensureTableF", desc := "()V" } : Jvm.MethodName) prog_1_method_24_code (4 : Nat) (Option.none : Option Jvm.ClassFile.FieldType)).before args0 about1 = true := code_word (m := ⟨2, 10⟩) (meth := k2m10) (c := k2c10) (by decide +kernel) rfl rfl rfl (by decide +kernel)
set_option maxRecDepth 65536 in
theorem w_c11 : (Jvm.Cond.code ({ cls := "SaturProver", name := "step", desc := "(II)I" } : Jvm.MethodName) prog_1_method_26_code (4 : Nat) (Option.some Jvm.ClassFile.FieldType.int)).before args0 about1 = true := code_word (m := ⟨2, 12⟩) (meth := k2m12) (c := k2c12) (by decide +kernel) rfl rfl rfl (by decide +kernel)
set_option maxRecDepth 65536 in
theorem w_c12 : (Jvm.Cond.code ({ cls := "SaturProver", name := "pushLeaf", desc := "(II)V" } : Jvm.MethodName) prog_1_method_27_code (5 : Nat) (Option.none : Option Jvm.ClassFile.FieldType)).before args0 about1 = true := code_word (m := ⟨2, 13⟩) (meth := k2m13) (c := k2c13) (by decide +kernel) rfl rfl rfl (by decide +kernel)
set_option maxRecDepth 65536 in
theorem w_c13 : (Jvm.Cond.code ({ cls := "SaturProver", name := "leafWord", desc := "(II)J" } : Jvm.MethodName) prog_1_method_31_code (3 : Nat) (Option.some Jvm.ClassFile.FieldType.long)).before args0 about1 = true := code_word (m := ⟨2, 14⟩) (meth := k2m14) (c := k2c14) (by decide +kernel) rfl rfl rfl (by decide +kernel)
set_option maxRecDepth 65536 in
theorem w_c14 : (Jvm.Cond.code ({ cls := "SaturProver", name := "varWord", desc := "(II)J" } : Jvm.MethodName) prog_1_method_32_code (3 : Nat) (Option.some Jvm.ClassFile.FieldType.long)).before args0 about1 = true := code_word (m := ⟨2, 15⟩) (meth := k2m15) (c := k2c15) (by decide +kernel) rfl rfl rfl (by decide +kernel)
set_option maxRecDepth 65536 in
theorem w_c15 : (Jvm.Cond.code ({ cls := "SaturProver", name := "storeTopIntoF", desc := "(I)V" } : Jvm.MethodName) prog_1_method_25_code (5 : Nat) (Option.none : Option Jvm.ClassFile.FieldType)).before args0 about1 = true := code_word (m := ⟨2, 11⟩) (meth := k2m11) (c := k2c11) (by decide +kernel) rfl rfl rfl (by decide +kernel)
set_option maxRecDepth 65536 in
theorem w_c16 : (Jvm.Cond.code ({ cls := "SaturProver", name := "bitOfF", desc := "(I)I" } : Jvm.MethodName) prog_1_method_33_code (5 : Nat) (Option.some Jvm.ClassFile.FieldType.int)).before args0 about1 = true := code_word (m := ⟨2, 16⟩) (meth := k2m16) (c := k2c16) (by decide +kernel) rfl rfl rfl (by decide +kernel)
set_option maxRecDepth 65536 in
theorem w_c17 : (Jvm.Cond.code ({ cls := "SaturProver", name := "lastResult", desc := "()I" } : Jvm.MethodName) prog_1_method_16_code (1 : Nat) (Option.some Jvm.ClassFile.FieldType.int)).before args0 about1 = true := code_word (m := ⟨2, 5⟩) (meth := k2m5) (c := k2c5) (by decide +kernel) rfl rfl rfl (by decide +kernel)
set_option maxRecDepth 65536 in
theorem w_c18 : (Jvm.Cond.code ({ cls := "SaturProver", name := "witness", desc := "()I" } : Jvm.MethodName) prog_1_method_17_code (1 : Nat) (Option.some Jvm.ClassFile.FieldType.int)).before args0 about1 = true := code_word (m := ⟨2, 6⟩) (meth := k2m6) (c := k2c6) (by decide +kernel) rfl rfl rfl (by decide +kernel)
def codes1 : List Jvm.Cond := [Jvm.Cond.code x code maxLocals ret, Jvm.Cond.code ({ cls := "SaturProver", name := "<init>", desc := "(I)V" } : Jvm.MethodName) prog_1_method_1_code (3 : Nat) (Option.none : Option Jvm.ClassFile.FieldType), Jvm.Cond.code ({ cls := "java/lang/Object", name := "<init>", desc := "()V" } : Jvm.MethodName) object_method_1_code (1 : Nat) (Option.none : Option Jvm.ClassFile.FieldType), Jvm.Cond.code ({ cls := "SaturProver", name := "resetResult", desc := "()V" } : Jvm.MethodName) prog_1_method_19_code (1 : Nat) (Option.none : Option Jvm.ClassFile.FieldType), Jvm.Cond.code ({ cls := "SaturProver", name := "pushToken", desc := "(I)I" } : Jvm.MethodName) prog_1_method_2_code (3 : Nat) (Option.some Jvm.ClassFile.FieldType.int), Jvm.Cond.code ({ cls := "SaturProver", name := "arity", desc := "(I)I" } : Jvm.MethodName) prog_1_method_21_code (2 : Nat) (Option.some Jvm.ClassFile.FieldType.int), Jvm.Cond.code ({ cls := "SaturProver", name := "length", desc := "()I" } : Jvm.MethodName) prog_1_method_6_code (1 : Nat) (Option.some Jvm.ClassFile.FieldType.int), Jvm.Cond.code ({ cls := "SaturProver", name := "depth", desc := "()I" } : Jvm.MethodName) prog_1_method_8_code (1 : Nat) (Option.some Jvm.ClassFile.FieldType.int), Jvm.Cond.code ({ cls := "SaturProver", name := "evaluate", desc := "(I)I" } : Jvm.MethodName) prog_1_method_12_code (2 : Nat) (Option.some Jvm.ClassFile.FieldType.int), Jvm.Cond.code ({ cls := "SaturProver", name := "completeF", desc := "()Z" } : Jvm.MethodName) prog_1_method_18_code (1 : Nat) (Option.some Jvm.ClassFile.FieldType.boolean), Jvm.Cond.code ({ cls := "SaturProver", name := "ensureTableF", desc := "()V" } : Jvm.MethodName) prog_1_method_24_code (4 : Nat) (Option.none : Option Jvm.ClassFile.FieldType), Jvm.Cond.code ({ cls := "SaturProver", name := "step", desc := "(II)I" } : Jvm.MethodName) prog_1_method_26_code (4 : Nat) (Option.some Jvm.ClassFile.FieldType.int), Jvm.Cond.code ({ cls := "SaturProver", name := "pushLeaf", desc := "(II)V" } : Jvm.MethodName) prog_1_method_27_code (5 : Nat) (Option.none : Option Jvm.ClassFile.FieldType), Jvm.Cond.code ({ cls := "SaturProver", name := "leafWord", desc := "(II)J" } : Jvm.MethodName) prog_1_method_31_code (3 : Nat) (Option.some Jvm.ClassFile.FieldType.long), Jvm.Cond.code ({ cls := "SaturProver", name := "varWord", desc := "(II)J" } : Jvm.MethodName) prog_1_method_32_code (3 : Nat) (Option.some Jvm.ClassFile.FieldType.long), Jvm.Cond.code ({ cls := "SaturProver", name := "storeTopIntoF", desc := "(I)V" } : Jvm.MethodName) prog_1_method_25_code (5 : Nat) (Option.none : Option Jvm.ClassFile.FieldType), Jvm.Cond.code ({ cls := "SaturProver", name := "bitOfF", desc := "(I)I" } : Jvm.MethodName) prog_1_method_33_code (5 : Nat) (Option.some Jvm.ClassFile.FieldType.int), Jvm.Cond.code ({ cls := "SaturProver", name := "lastResult", desc := "()I" } : Jvm.MethodName) prog_1_method_16_code (1 : Nat) (Option.some Jvm.ClassFile.FieldType.int), Jvm.Cond.code ({ cls := "SaturProver", name := "witness", desc := "()I" } : Jvm.MethodName) prog_1_method_17_code (1 : Nat) (Option.some Jvm.ClassFile.FieldType.int)]
set_option maxRecDepth 65536 in
theorem codes_eq : words1.filter isCode = codes1 := rfl
theorem w_codes : ∀ c ∈ words1.filter isCode, c.before args0 about1 = true := by
  rw [codes_eq]
  intro c hc
  simp only [codes1, List.mem_cons, List.not_mem_nil, or_false] at hc
  rcases hc with rfl | rfl | rfl | rfl | rfl | rfl | rfl | rfl | rfl | rfl | rfl | rfl | rfl | rfl | rfl | rfl | rfl | rfl | rfl
  · exact w_c0
  · exact w_c1
  · exact w_c2
  · exact w_c3
  · exact w_c4
  · exact w_c5
  · exact w_c6
  · exact w_c7
  · exact w_c8
  · exact w_c9
  · exact w_c10
  · exact w_c11
  · exact w_c12
  · exact w_c13
  · exact w_c14
  · exact w_c15
  · exact w_c16
  · exact w_c17
  · exact w_c18
set_option maxRecDepth 65536 in
theorem w_t1 : (words1.take 24).all (fun c => isCode c || c.before args0 about1) = true := by decide +kernel
set_option maxRecDepth 65536 in
theorem w_t2 : ((words1.drop 24).take 24).all (fun c => isCode c || c.before args0 about1) = true := by decide +kernel
set_option maxRecDepth 65536 in
theorem w_t3 : (((words1.drop 24).drop 24).take 24).all (fun c => isCode c || c.before args0 about1) = true := by decide +kernel
set_option maxRecDepth 65536 in
theorem w_t4 : ((((words1.drop 24).drop 24).drop 24).take 24).all (fun c => isCode c || c.before args0 about1) = true := by decide +kernel
set_option maxRecDepth 65536 in
theorem w_t5 : ((((words1.drop 24).drop 24).drop 24).drop 24).all (fun c => isCode c || c.before args0 about1) = true := by decide +kernel
theorem w_tables : (allAtoms (Jvm.Cond.code x code maxLocals ret :: tables_1)).before args0 about1 = true := by
  rw [allAtoms_all]
  show words1.all (fun c => c.before args0 about1) = true
  refine all_split ?_ w_codes
  rw [← List.take_append_drop 24 words1, List.all_append, w_t1, ← List.take_append_drop 24 (words1.drop 24), List.all_append, w_t2, ← List.take_append_drop 24 ((words1.drop 24).drop 24), List.all_append, w_t3, ← List.take_append_drop 24 (((words1.drop 24).drop 24).drop 24), List.all_append, w_t4, w_t5]
  rfl
set_option maxRecDepth 65536 in
theorem w_case : (Jvm.Cond.and given_1 narrow_1).before args0 about1 = true := by decide +kernel
theorem w_applies : (headSpec (Jvm.Cond.code x code maxLocals ret :: tables_1) room_1).applies x e0.platform about1 = true :=
  (Spec.applies_iff w_frames).mpr ⟨w_running, w_runnable, w_alone, w_named, w_hears, w_ripe, w_room, w_tables⟩
theorem atStart : AtStart classFile x code maxLocals ret World_1 tables_1 room_1 Calls_1 rest_1 Pre_1 launch0 p0 e0 about1 theMethod args0 below0 :=
  ⟨lists_1, trivial, launch0.admits_env _ _ _, launch0.least_env, fairChoices_fair.cas, fairChoices_fair.clock, w_frames, w_args, w_heap, w_applies, trivial, trivial, w_case⟩
end start1
theorem witness_1 : WitnessClaimed_1 := ⟨start1.p0, start1.e0, start1.about1, start1.theMethod, start1.args0, start1.below0, start1.atStart⟩
end Jvm.Pilot.@@N@@
