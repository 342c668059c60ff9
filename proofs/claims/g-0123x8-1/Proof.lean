import JvmDerived
import JvmDerived.Pilot.@@N@@Statement
import JvmDerived.Pilot.@@N@@Code
set_option linter.unusedVariables false
set_option linter.unusedSimpArgs false
namespace Jvm.RoadKit
open Sem ClassFile Op Lib Jvm.Stand Jvm.Free Jvm.LawKit
section New
variable {p : Program} {l : Launch} {e : Env} {R : Room} {s : State} {m : MethodId} {args : Array Value} {below : List Frame} {meth : Method} {c : Code} {T : State} {locs : List Loc} {cells slots : Nat}
theorem retI (X : Stand p l e R s m args below meth c T locs cells slots) (hx : p.tables.exec = Jvm.exec) {pc : Nat} {Ls : Array Slot} {z : Int32} {rest : List Value} (hret : meth.sig.returnType = some .int) (hd : decode c.code pc = .ok (.ireturn, 1)) {fs : List Frame}
    (hl : ∀ (f : JFrame) (acts : List Action), f.method = m → f.locked = none → f.entered = [] → (doReturn e (T.setTop f) acts (some (.int z))).1 = T.setFrames fs) : Steps p.tables e below (T.setTop (mkF m pc Ls (.int z :: rest))) (T.setFrames fs) := by
  have hm' : T.vm.method? m = some meth := X.method'
  have hn : narrow .int (.int z) = .int z := rfl
  show Steps p.tables e below (T.setTop { method := m, pc := pc, locals := Ls, stack := _ :: rest, locked := none }) _
  jvm_step X.here [X.here.top, hx, hd, hm', hret, hn]
  first | (intro acts; rw [hl _ acts rfl rfl rfl]) | rw [hl _ _ rfl rfl rfl]
  exact Steps.refl _
end New
end Jvm.RoadKit
namespace Jvm.Pilot.@@N@@
open Jvm Jvm.ClassFile Sem Op Lib Jvm.Free Jvm.Stand Jvm.LawKit Jvm.RoadKit Bundle Jvm.Pilot.@@N@@.Jvm.D
/- records: scalars, int-like arrays, long arrays -/
abbrev Rec : Type := (Nat → Int32) × (Nat → Int32 → Int32) × (Nat → Int32 → Int64)
def zrec : Rec := (fun _ => 0, fun _ _ => 0, fun _ _ => 0)
def gI (ob : Rec) (k : Nat) : Int32 := ob.1 k
def gA (ob : Rec) (k : Nat) (i : Int32) : Int32 := ob.2.1 k i
def gJ (ob : Rec) (k : Nat) (i : Int32) : Int64 := ob.2.2 k i
def sI (ob : Rec) (k : Nat) (v : Int32) : Rec := (fun j => if j = k then v else ob.1 j, ob.2)
def sA (ob : Rec) (k : Nat) (i v : Int32) : Rec := (ob.1, fun j x => if j = k ∧ x = i then v else ob.2.1 j x, ob.2.2)
def sJ (ob : Rec) (k : Nat) (i : Int32) (v : Int64) : Rec := (ob.1, ob.2.1, fun j x => if j = k ∧ x = i then v else ob.2.2 j x)
def chk {γ : Type} (n i : Int32) (A : Option γ) : Option γ := if i < 0 then none else if i < n then A else none
def dvz {γ : Type} (y : Int32) (A : Option γ) : Option γ := if y = 0 then none else A
def bind2 {α β γ : Type} (o : Option (α × β)) (f : α → β → Option γ) : Option γ := o.bind fun q => f q.1 q.2
def bind3 {α β γ δ : Type} (o : Option (α × β × δ)) (f : α → β → δ → Option γ) : Option γ := o.bind fun q => f q.1 q.2.1 q.2.2
theorem ite_el {c : Prop} [Decidable c] {γ : Type} {A B : Option γ} {r : γ} {Q : Prop} (h : (if c then A else B) = some r) (t : c → A = some r → Q) (e : ¬ c → B = some r → Q) : Q := by
  by_cases hc : c
  · rw [if_pos hc] at h; exact t hc h
  · rw [if_neg hc] at h; exact e hc h
theorem bind_el {α γ : Type} {o : Option α} {f : α → Option γ} {r : γ} {Q : Prop} (h : o.bind f = some r) (k : ∀ x, o = some x → f x = some r → Q) : Q := by
  cases o with
  | none => cases h
  | some x => exact k x rfl h
theorem bind2_el {α β γ : Type} {o : Option (α × β)} {f : α → β → Option γ} {r : γ} {Q : Prop} (h : bind2 o f = some r) (k : ∀ x y, o = some (x, y) → f x y = some r → Q) : Q := by
  rcases o with _ | ⟨x, y⟩
  · cases h
  · exact k x y rfl h
theorem bind3_el {α β γ δ : Type} {o : Option (α × β × δ)} {f : α → β → δ → Option γ} {r : γ} {Q : Prop} (h : bind3 o f = some r) (k : ∀ x y z, o = some (x, y, z) → f x y z = some r → Q) : Q := by
  rcases o with _ | ⟨x, y, z⟩
  · cases h
  · exact k x y z rfl h
theorem chk_el {γ : Type} {n i : Int32} {A : Option γ} {r : γ} {Q : Prop} (h : chk n i A = some r) (k : (¬ i < 0 ∧ i < n) → A = some r → Q) : Q := by
  unfold chk at h
  by_cases h0 : i < 0
  · rw [if_pos h0] at h; cases h
  · rw [if_neg h0] at h
    by_cases h1 : i < n
    · rw [if_pos h1] at h; exact k ⟨h0, h1⟩ h
    · rw [if_neg h1] at h; cases h
theorem dvz_el {γ : Type} {y : Int32} {A : Option γ} {r : γ} {Q : Prop} (h : dvz y A = some r) (k : y ≠ 0 → A = some r → Q) : Q := by
  unfold dvz at h
  by_cases h0 : y = 0
  · rw [if_pos h0] at h; cases h
  · rw [if_neg h0] at h; exact k h0 h
def All {α : Type} (p : α → Prop) : List α → Prop
  | [] => True
  | x :: l => p x ∧ All p l
theorem All.mem {α : Type} {p : α → Prop} : ∀ {l : List α}, All p l → ∀ {x : α}, x ∈ l → p x
  | [], _, _, h => nomatch h
  | _ :: _, H, _, h => (List.mem_cons.mp h).elim (fun e => e ▸ H.1) (fun e => All.mem H.2 e)
def el (ty : FieldType) (ob : Rec) (k : Nat) (j : Int32) : Value := match ty with
  | .long => .long (ob.2.2 k j)
  | _ => .int (ob.2.1 k j)
def aD (ty : FieldType) : String := match ty with
  | .int => "[I"
  | .boolean => "[Z"
  | _ => "[J"
abbrev Cls : Type := String × List (String × String) × List (String × FieldType × Int32)
abbrev mem1 (k : Nat) {d : Jvm.Cond} (h : tables_1[k]? = some d) : d ∈ tables_1 := List.mem_of_getElem? h
abbrev sOk (C : String) (nd : String × String) : Prop := (Jvm.Cond.lays C C nd.1 nd.2 ∈ tables_1 ∨ Jvm.Cond.laysFinal C C nd.1 nd.2 ∈ tables_1) ∧ (nd.2 = "I" ∨ nd.2 = "Z")
abbrev aOk (C : String) (t : String × FieldType × Int32) : Prop := (Jvm.Cond.lays C C t.1 (aD t.2.1) ∈ tables_1 ∨ Jvm.Cond.laysFinal C C t.1 (aD t.2.1) ∈ tables_1) ∧ (t.2.1 = .int ∨ t.2.1 = .boolean ∨ t.2.1 = .long) ∧ ¬ t.2.2 < 0
def K : Cls := ("MirrorResync", [("n", "I"), ("regionSize", "I"), ("clearDelay", "I"), ("regions", "I"), ("down", "Z"), ("busy", "Z"), ("pBlock", "I"), ("pValue", "I"), ("pCursor", "I")], [("data", .int, 64), ("acked", .int, 32), ("state", .int, 2), ("dirty", .boolean, 32), ("pending", .boolean, 32), ("age", .int, 32)])
theorem kS : All (sOk K.1) K.2.1 := ⟨⟨Or.inl (mem1 27 rfl), Or.inl rfl⟩, ⟨Or.inl (mem1 29 rfl), Or.inl rfl⟩, ⟨Or.inl (mem1 31 rfl), Or.inl rfl⟩, ⟨Or.inl (mem1 33 rfl), Or.inl rfl⟩, ⟨Or.inl (mem1 35 rfl), Or.inr rfl⟩, ⟨Or.inl (mem1 37 rfl), Or.inr rfl⟩, ⟨Or.inl (mem1 39 rfl), Or.inl rfl⟩, ⟨Or.inl (mem1 41 rfl), Or.inl rfl⟩, ⟨Or.inl (mem1 43 rfl), Or.inl rfl⟩, trivial⟩
theorem kA : All (aOk K.1) K.2.2 := ⟨⟨Or.inl (mem1 11 rfl), Or.inl rfl, by decide⟩, ⟨Or.inl (mem1 13 rfl), Or.inl rfl, by decide⟩, ⟨Or.inl (mem1 15 rfl), Or.inl rfl, by decide⟩, ⟨Or.inl (mem1 18 rfl), Or.inr (Or.inl rfl), by decide⟩, ⟨Or.inl (mem1 20 rfl), Or.inr (Or.inl rfl), by decide⟩, ⟨Or.inl (mem1 22 rfl), Or.inl rfl, by decide⟩, trivial⟩
abbrev kN : Nat := 15
theorem kI : Jvm.Cond.instantiable K.1 kN ∈ tables_1 := mem1 1 rfl
theorem kZ : Jvm.Cond.initialized K.1 ∈ tables_1 := mem1 2 rfl
theorem kNm : (K.2.1.map (·.1) ++ K.2.2.map (·.1)).Nodup := by decide +kernel
theorem nm_ss {k k' : Nat} {nd nd' : String × String} (h : K.2.1[k]? = some nd) (h' : K.2.1[k']? = some nd') (ne : k ≠ k') : nd.1 ≠ nd'.1 := fun e => by
  have l := (List.getElem?_eq_some_iff.mp h).1
  have l' := (List.getElem?_eq_some_iff.mp h').1
  refine ne ((List.getElem?_inj (l := K.2.1.map (·.1) ++ K.2.2.map (·.1)) (i := k) (j := k') (by simp; omega) kNm).mp ?_)
  rw [List.getElem?_append_left (by simpa using l), List.getElem?_append_left (by simpa using l'), List.getElem?_map, List.getElem?_map, h, h']
  simp [e]
theorem nm_aa {k k' : Nat} {t t' : String × FieldType × Int32} (h : K.2.2[k]? = some t) (h' : K.2.2[k']? = some t') (ne : k ≠ k') : t.1 ≠ t'.1 := fun e => by
  have l := (List.getElem?_eq_some_iff.mp h).1
  have l' := (List.getElem?_eq_some_iff.mp h').1
  have q := (List.getElem?_inj (l := K.2.1.map (·.1) ++ K.2.2.map (·.1)) (i := K.2.1.length + k) (j := K.2.1.length + k') (by simp; omega) kNm).mp (by
    rw [List.getElem?_append_right (by simp), List.getElem?_append_right (by simp)]
    simp [h, h', e])
  omega
theorem nm_sa {k k' : Nat} {nd : String × String} {t : String × FieldType × Int32} (h : K.2.1[k]? = some nd) (h' : K.2.2[k']? = some t) : nd.1 ≠ t.1 := fun e => by
  have l := (List.getElem?_eq_some_iff.mp h).1
  have l' := (List.getElem?_eq_some_iff.mp h').1
  have q := (List.getElem?_inj (l := K.2.1.map (·.1) ++ K.2.2.map (·.1)) (i := k) (j := K.2.1.length + k') (by simp; omega) kNm).mp (by
    rw [List.getElem?_append_left (by simpa using l), List.getElem?_append_right (by simp)]
    simp [h, h', e])
  omega
abbrev Ctx : Type := Launch × State × Nat × Array Value
def Ok (C : Ctx) : Prop := ∀ d ∈ tables_1, d.before C.2.2.2 C.2.1 = true
def ArrAt (Z : State) (h : Heap) (b : Nat) (ty : FieldType) (len : Int32) (v : Int32 → Value) : Prop := ∃ cl : Cell, Arr Z h b cl ty ∧ cl.slots.size = len.toNatClampNeg ∧ ∀ j : Int32, ¬ j < 0 → j < len → cl.slots[j.toNatClampNeg]? = some (v j)
def ObjAt (Z : State) (h : Heap) (a : Nat) (q : Nat) (ob : Rec) : Prop :=
  Exa Z h a K.1 ∧ (∀ k nd, K.2.1[k]? = some nd → Fld Z h a K.1 nd.1 nd.2 (.int (ob.1 k))) ∧
  (∀ k t, K.2.2[k]? = some t → k < q → Fld Z h a K.1 t.1 (aD t.2.1) (.ref (a + 1 + k)) ∧ ArrAt Z h (a + 1 + k) t.2.1 t.2.2 (el t.2.1 ob k)) ∧
  (∀ k t, K.2.2[k]? = some t → q ≤ k → Fld Z h a K.1 t.1 (aD t.2.1) .null)
abbrev AH : Type := Nat × List (Nat × Nat × Rec)
def Rep (Z : State) (n0 : Nat) (h : Heap) (G : AH) : Prop :=
  h.size = G.1 ∧ Old Z n0 h ∧ (∀ x ∈ G.2, n0 ≤ x.1 ∧ x.1 + x.2.1 < G.1 ∧ ObjAt Z h x.1 x.2.1 x.2.2) ∧ G.2.Pairwise (fun x y => x.1 + x.2.1 < y.1 ∨ y.1 + y.2.1 < x.1)
section Facts
variable {Z : State} {h h' : Heap} {a b : Nat} {q k n0 top : Nat} {ob ob' : Rec} {nd : String × String} {t : String × FieldType × Int32} {a0 : Array Value} {sl : Nat} {v : Value} {H : List (Nat × Nat × Rec)} {G : AH}
theorem fld_fr {C n d : String} (e : h'[a]? = h[a]?) (F : Fld Z h a C n d v) : Fld Z h' a C n d v := by
  obtain ⟨cell, cf, k, i, f, h1, r⟩ := F; exact ⟨cell, cf, k, i, f, e.trans h1, r⟩
theorem exa_fr {C : String} (e : h'[a]? = h[a]?) (F : Exa Z h a C) : Exa Z h' a C := by
  obtain ⟨cell, k, h1, r⟩ := F; exact ⟨cell, k, e.trans h1, r⟩
theorem arrAt_fr {ty : FieldType} {len : Int32} {w : Int32 → Value} (e : h'[a]? = h[a]?) (F : ArrAt Z h a ty len w) : ArrAt Z h' a ty len w := by
  obtain ⟨cl, A, r⟩ := F; exact ⟨cl, ⟨e.trans A.1, A.2⟩, r⟩
theorem ObjAt.frame (e : ∀ b, a ≤ b → b ≤ a + q → h'[b]? = h[b]?) (F : ObjAt Z h a q ob) : ObjAt Z h' a q ob := by
  have e0 := e a (Nat.le_refl _) (Nat.le_add_right _ _)
  refine ⟨exa_fr e0 F.1, fun k nd hk => fld_fr e0 (F.2.1 k nd hk), fun k t hk hq => ⟨fld_fr e0 (F.2.2.1 k t hk hq).1, arrAt_fr (e _ (by omega) (by omega)) (F.2.2.1 k t hk hq).2⟩, fun k t hk hq => fld_fr e0 (F.2.2.2 k t hk hq)⟩
theorem ObjAt.ext (E : Ext h h') (F : ObjAt Z h a q ob) : ObjAt Z h' a q ob := by
  refine ⟨F.1.ext E, fun k nd hk => (F.2.1 k nd hk).ext E, fun k t hk hq => ⟨(F.2.2.1 k t hk hq).1.ext E, ?_⟩, fun k t hk hq => (F.2.2.2 k t hk hq).ext E⟩
  obtain ⟨cl, A, r⟩ := (F.2.2.1 k t hk hq).2; exact ⟨cl, A.ext E, r⟩
theorem wr_ne (W : Wr h h' a sl v) (ne : b ≠ a) : h'[b]? = h[b]? := by
  obtain ⟨cell, -, -, -, rfl⟩ := W; exact Array.getElem?_setIfInBounds_ne (Ne.symm ne)
theorem laidS (hw : ∀ d ∈ tables_1, d.before a0 Z = true) (hk : K.2.1[k]? = some nd) : Laid Z a0 K.1 K.1 nd.1 nd.2 := ((All.mem kS (List.mem_of_getElem? hk)).1).imp (hw _) (hw _)
theorem laidA (hw : ∀ d ∈ tables_1, d.before a0 Z = true) (hk : K.2.2[k]? = some t) : Laid Z a0 K.1 K.1 t.1 (aD t.2.1) := ((All.mem kA (List.mem_of_getElem? hk)).1).imp (hw _) (hw _)
theorem pfS (hk : K.2.1[k]? = some nd) : ∃ ty, parseFieldDescriptor nd.2 = some ty := by
  rcases (All.mem kS (List.mem_of_getElem? hk)).2 with e | e <;> rw [e]
  · exact ⟨.int, by decide⟩
  · exact ⟨.boolean, by decide⟩
theorem pfA (hk : K.2.2[k]? = some t) : parseFieldDescriptor (aD t.2.1) = some (.array t.2.1) := by
  rcases (All.mem kA (List.mem_of_getElem? hk)).2.1 with e | e | e <;> rw [e] <;> decide
theorem ObjAt.putI {x : Int32} (hw : ∀ d ∈ tables_1, d.before a0 Z = true) (F : ObjAt Z h a q ob) (hk : K.2.1[k]? = some nd) (W : Wr h h' a (Jvm.RoadKit.slotOf Z K.1 nd.1 nd.2) (.int x)) : ObjAt Z h' a q (sI ob k x) := by
  obtain ⟨ty, hty⟩ := pfS hk
  refine ⟨F.1.wr W, fun k' nd' hk' => ?_, fun k' t hk' hq => ⟨(F.2.2.1 k' t hk' hq).1.other W (Or.inr (Jvm.RoadKit.slot_ne (laidA hw hk') (laidS hw hk) (Ne.symm (nm_sa hk hk')) (pfA hk') hty)), ?_⟩, fun k' t hk' hq => (F.2.2.2 k' t hk' hq).other W (Or.inr (Jvm.RoadKit.slot_ne (laidA hw hk') (laidS hw hk) (Ne.symm (nm_sa hk hk')) (pfA hk') hty))⟩
  · by_cases e : k' = k
    · subst e; cases hk.symm.trans hk'
      have := (F.2.1 k' nd hk).same W
      simpa [sI] using this
    · obtain ⟨ty', hty'⟩ := pfS hk'
      have := (F.2.1 k' nd' hk').other W (Or.inr (Jvm.RoadKit.slot_ne (laidS hw hk') (laidS hw hk) (nm_ss hk' hk e) hty' hty))
      simpa [sI, e] using this
  · have := arrAt_fr (wr_ne W (by omega)) (F.2.2.1 k' t hk' hq).2
    have e : el t.2.1 (sI ob k x) k' = el t.2.1 ob k' := by funext j; unfold el; split <;> rfl
    rw [e]; exact this
theorem ObjAt.putA (F : ObjAt Z h a q ob) (hk : K.2.2[k]? = some t) (hq : k < q) {x : Value} {j : Int32} (hj : ¬ j < 0 ∧ j < t.2.2) (W : Wr h h' (a + 1 + k) j.toNatClampNeg x)
    (e1 : el t.2.1 ob' k = fun i => if i = j then x else el t.2.1 ob k i) (e2 : ∀ k' t', k' ≠ k → el t' ob' k' = el t' ob k') (e3 : ob'.1 = ob.1) : ObjAt Z h' a q ob' := by
  have u : h'[a]? = h[a]? := wr_ne W (by omega)
  refine ⟨exa_fr u F.1, fun k' nd hk' => by rw [e3]; exact fld_fr u (F.2.1 k' nd hk'), fun k' t' hk' hq' => ⟨fld_fr u (F.2.2.1 k' t' hk' hq').1, ?_⟩, fun k' t' hk' hq' => fld_fr u (F.2.2.2 k' t' hk' hq')⟩
  by_cases e : k' = k
  · subst e; cases hk.symm.trans hk'
    obtain ⟨cl, A, S, V⟩ := (F.2.2.1 k' t hk hq).2
    have inb : ¬ (j < 0 ∨ cl.slots.size ≤ j.toNatClampNeg) := inb_of S hj
    refine ⟨_, A.same W, by rw [sz_set]; exact S, fun i h0 h1 => ?_⟩
    rw [e1]
    by_cases ei : i = j
    · simp only [ei, if_true]; exact get_hit inb rfl
    · simp only [ei, if_false]; rw [get_miss hj.1 h0 ei]; exact V i h0 h1
  · rw [e2 k' _ e]; exact arrAt_fr (wr_ne W (by omega)) (F.2.2.1 k' t' hk' hq').2
theorem el_sA {ty : FieldType} (ht : ty ≠ .long) (j x : Int32) : el ty (sA ob k j x) k = fun i => if i = j then .int x else el ty ob k i := by
  funext i; cases ty <;> first | exact absurd rfl ht | (simp only [el, sA, true_and]; split <;> rfl)
theorem el_sJ (j : Int32) (x : Int64) : el .long (sJ ob k j x) k = fun i => if i = j then .long x else el .long ob k i := by
  funext i; simp only [el, sJ, true_and]; split <;> rfl
theorem el_sA' (j x : Int32) (k' : Nat) (t' : FieldType) (ne : k' ≠ k) : el t' (sA ob k j x) k' = el t' ob k' := by
  funext i; cases t' <;> simp [el, sA, ne]
theorem el_sJ' (j : Int32) (x : Int64) (k' : Nat) (t' : FieldType) (ne : k' ≠ k) : el t' (sJ ob k j x) k' = el t' ob k' := by
  funext i; cases t' <;> simp [el, sJ, ne]
theorem Rep.upd (R : Rep Z n0 h (top, (a, q, ob) :: H)) (hs : h'.size = h.size) (hO : Old Z n0 h') (e : ∀ b, (b < a ∨ a + q < b) → h'[b]? = h[b]?) (F : ObjAt Z h' a q ob') : Rep Z n0 h' (top, (a, q, ob') :: H) := by
  obtain ⟨r1, r2, r3, r4⟩ := R
  refine ⟨hs.trans r1, hO, fun x hx => ?_, ?_⟩
  · rcases List.mem_cons.mp hx with rfl | hx
    · exact ⟨(r3 _ (List.mem_cons_self ..)).1, (r3 _ (List.mem_cons_self ..)).2.1, F⟩
    · obtain ⟨p1, p2, p3⟩ := r3 x (List.mem_cons_of_mem _ hx)
      refine ⟨p1, p2, p3.frame fun b h1 h2 => e b ?_⟩
      have := (List.pairwise_cons.mp r4).1 x hx
      simp only at this
      omega
  · have := List.pairwise_cons.mp r4
    exact List.pairwise_cons.mpr ⟨fun y hy => this.1 y hy, this.2⟩
theorem Rep.objs (R : Rep Z n0 h (top, (a, q, ob) :: H)) : n0 ≤ a ∧ a + q < top ∧ ObjAt Z h a q ob := R.2.2.1 _ (List.mem_cons_self ..)
theorem Rep.putI {x : Int32} (hw : ∀ d ∈ tables_1, d.before a0 Z = true) (R : Rep Z n0 h (top, (a, q, ob) :: H)) (hk : K.2.1[k]? = some nd) (W : Wr h h' a (Jvm.RoadKit.slotOf Z K.1 nd.1 nd.2) (.int x)) : Rep Z n0 h' (top, (a, q, sI ob k x) :: H) :=
  R.upd W.size (R.2.1.wr W R.objs.1) (fun b hb => wr_ne W (by omega)) (R.objs.2.2.putI hw hk W)
theorem Rep.putA {x j : Int32} (R : Rep Z n0 h (top, (a, q, ob) :: H)) (hk : K.2.2[k]? = some t) (hq : k < q) (ht : t.2.1 ≠ .long) (hj : ¬ j < 0 ∧ j < t.2.2) (W : Wr h h' (a + 1 + k) j.toNatClampNeg (.int x)) : Rep Z n0 h' (top, (a, q, sA ob k j x) :: H) :=
  R.upd W.size (R.2.1.wr W (by have := R.objs.1; omega)) (fun b hb => wr_ne W (by omega)) (R.objs.2.2.putA hk hq hj W (el_sA ht j x) (fun k' t' ne => el_sA' j x k' t' ne) rfl)
theorem Rep.putJ {j : Int32} {x : Int64} (R : Rep Z n0 h (top, (a, q, ob) :: H)) (hk : K.2.2[k]? = some t) (hq : k < q) (ht : t.2.1 = .long) (hj : ¬ j < 0 ∧ j < t.2.2) (W : Wr h h' (a + 1 + k) j.toNatClampNeg (.long x)) : Rep Z n0 h' (top, (a, q, sJ ob k j x) :: H) :=
  R.upd W.size (R.2.1.wr W (by have := R.objs.1; omega)) (fun b hb => wr_ne W (by omega)) (R.objs.2.2.putA hk hq hj W (by rw [ht]; exact el_sJ j x) (fun k' t' ne => el_sJ' j x k' t' ne) rfl)
theorem Rep.swap {x y : Nat × Nat × Rec} (R : Rep Z n0 h (top, x :: y :: H)) : Rep Z n0 h (top, y :: x :: H) := by
  obtain ⟨r1, r2, r3, r4⟩ := R
  refine ⟨r1, r2, fun z hz => r3 z ?_, ?_⟩
  · simp only [List.mem_cons] at hz ⊢
    rcases hz with e | e | e
    · exact Or.inr (Or.inl e)
    · exact Or.inl e
    · exact Or.inr (Or.inr e)
  · simp only [List.pairwise_cons, List.mem_cons] at r4 ⊢
    obtain ⟨p1, p2, p3⟩ := r4
    refine ⟨fun z hz => ?_, fun z hz => p1 z (Or.inr hz), p3⟩
    rcases hz with rfl | hz
    · exact (p1 _ (Or.inl rfl)).symm
    · exact p2 z hz
theorem ObjAt.addA (hw : ∀ d ∈ tables_1, d.before a0 Z = true) (F : ObjAt Z h a k ob) (hk : K.2.2[k]? = some t) (A : ArrAt Z h (a + 1 + k) t.2.1 t.2.2 (el t.2.1 ob k)) (W : Wr h h' a (Jvm.RoadKit.slotOf Z K.1 t.1 (aD t.2.1)) (.ref (a + 1 + k))) : ObjAt Z h' a (k + 1) ob := by
  refine ⟨F.1.wr W, fun k' nd hk' => ?_, fun k' t' hk' hq => ?_, fun k' t' hk' hq => ?_⟩
  · obtain ⟨ty', hty'⟩ := pfS hk'
    exact (F.2.1 k' nd hk').other W (Or.inr (Jvm.RoadKit.slot_ne (laidS hw hk') (laidA hw hk) (nm_sa hk' hk) hty' (pfA hk)))
  · by_cases e : k' = k
    · subst e
      have et : t = t' := Option.some.inj (hk.symm.trans hk')
      subst et
      exact ⟨(F.2.2.2 k' t hk (Nat.le_refl _)).same W, arrAt_fr (wr_ne W (by omega)) A⟩
    · obtain ⟨f1, f2⟩ := F.2.2.1 k' t' hk' (by omega)
      exact ⟨f1.other W (Or.inr (Jvm.RoadKit.slot_ne (laidA hw hk') (laidA hw hk) (nm_aa hk' hk e) (pfA hk') (pfA hk))), arrAt_fr (wr_ne W (by omega)) f2⟩
  · exact (F.2.2.2 k' t' hk' (by omega)).other W (Or.inr (Jvm.RoadKit.slot_ne (laidA hw hk') (laidA hw hk) (nm_aa hk' hk (by omega)) (pfA hk') (pfA hk)))
theorem Rep.addA {h1 h2 : Heap} (hw : ∀ d ∈ tables_1, d.before a0 Z = true) (R : Rep Z n0 h (top, (a, k, ob) :: H)) (E : Ext h h1) (s1 : h1.size = top + 1) (htop : top = a + 1 + k) (hk : K.2.2[k]? = some t) (A : ArrAt Z h1 top t.2.1 t.2.2 (el t.2.1 ob k)) (W : Wr h1 h2 a (Jvm.RoadKit.slotOf Z K.1 t.1 (aD t.2.1)) (.ref top)) : Rep Z n0 h2 (top + 1, (a, k + 1, ob) :: H) := by
  obtain ⟨q1, q2, q3⟩ := R.objs
  have hp := List.pairwise_cons.mp R.2.2.2
  have hO : ObjAt Z h2 a (k + 1) ob := by
    subst htop
    exact (q3.ext E).addA hw hk A W
  refine ⟨W.size.trans s1, (R.2.1.ext E).wr W q1, List.forall_mem_cons.mpr ⟨⟨q1, ?_, hO⟩, fun x hx => ?_⟩, List.pairwise_cons.mpr ⟨fun y hy => ?_, hp.2⟩⟩
  · show a + (k + 1) < top + 1; omega
  · obtain ⟨p1, p2, p3⟩ := R.2.2.1 x (List.mem_cons_of_mem _ hx)
    have u1 : a + k < x.1 ∨ x.1 + x.2.1 < a := hp.1 x hx
    have u2 : x.1 + x.2.1 < top := p2
    exact ⟨p1, Nat.lt_succ_of_lt u2, (p3.ext E).frame fun b h1 h2 => wr_ne W (by omega)⟩
  · have u1 : a + k < y.1 ∨ y.1 + y.2.1 < a := hp.1 y hy
    have u2 : y.1 + y.2.1 < top := (R.2.2.1 y (List.mem_cons_of_mem _ hy)).2.1
    show a + (k + 1) < y.1 ∨ y.1 + y.2.1 < a
    omega
theorem arr_new {cA : ClassId} {ty : FieldType} {len : Int32} (A : Arr Z h b (newA cA ty len) ty) (hts : ty = .int ∨ ty = .boolean ∨ ty = .long) (hz : (∀ i, ob.2.1 k i = 0) ∧ (∀ i, ob.2.2 k i = 0)) : ArrAt Z h b ty len (el ty ob k) := by
  refine ⟨_, A, sz_new _ _ _, fun i h0 h1 => ?_⟩
  have hi : ¬ (i < 0 ∨ len.toNatClampNeg ≤ i.toNatClampNeg) := by
    have e0 : (0 : Int32).toInt = 0 := rfl
    simp only [Int32.lt_iff_toInt_lt, Int32.toNatClampNeg] at *
    omega
  rw [get_new hi]
  rcases hts with rfl | rfl | rfl
  · show some (Value.int 0) = some (Value.int (ob.2.1 k i)); rw [hz.1]
  · show some (Value.int 0) = some (Value.int (ob.2.1 k i)); rw [hz.1]
  · show some (Value.long 0) = some (Value.long (ob.2.2 k i)); rw [hz.2]
theorem Rep.start (s : State) : Rep s s.heap.size s.heap (s.heap.size, []) := ⟨rfl, Old.start s, fun x hx => (by cases hx), List.Pairwise.nil⟩
end Facts
/- bodies, decode facts, patterns of local variables -/
abbrev Bdy : Type := MethodName × ByteArray × Nat × Option FieldType × Room
def DAt (M : Bdy) (pc : Nat) (i : Instr) (n q : Nat) : Prop := decode M.2.1 pc = .ok (i, n) ∧ q = pc + n
abbrev Pat : Type := List (Option Slot)
abbrev vi (x : Int32) : Option Slot := some (.val (.int x))
abbrev vl (x : Int64) : Option Slot := some (.val (.long x))
abbrev vr (a : Nat) : Option Slot := some (.val (.ref a))
abbrev v2 : Option Slot := some .second
abbrev vn : Option Slot := none
def pget : Pat → Nat → Option Slot
  | [], _ => none
  | x :: _, 0 => x
  | _ :: l, n + 1 => pget l n
theorem pget_eq : ∀ (P : Pat) (i : Nat), pget P i = (P[i]?).join
  | [], _ => by simp [pget]
  | x :: l, 0 => by simp [pget]
  | x :: l, n + 1 => by simp [pget, pget_eq l n]
def pput : Pat → Nat → Option Slot → Pat
  | [], _, _ => []
  | _ :: l, 0, y => y :: l
  | x :: l, n + 1, y => x :: pput l n y
theorem pget_pput : ∀ (P : Pat) (i j : Nat) (y : Option Slot) (s : Slot), pget (pput P i y) j = some s → (j = i ∧ y = some s) ∨ (j ≠ i ∧ pget P j = some s)
  | [], _, _, _, _, h => by simp [pput, pget] at h
  | x :: l, 0, 0, y, s, h => Or.inl ⟨rfl, h⟩
  | x :: l, 0, j + 1, y, s, h => Or.inr ⟨by omega, h⟩
  | x :: l, i + 1, 0, y, s, h => Or.inr ⟨by omega, h⟩
  | x :: l, i + 1, j + 1, y, s, h => by
    rcases pget_pput l i j y s h with ⟨e, r⟩ | ⟨e, r⟩
    · exact Or.inl ⟨by omega, r⟩
    · exact Or.inr ⟨by omega, r⟩
/-- a two-word value whose first word is at i is forgotten -/
def pk1 (P : Pat) (i : Nat) : Pat := match pget P i with
  | some (.val (.long _)) => pput P i none
  | some (.val (.double _)) => pput P i none
  | _ => P
def pk2 (P : Pat) (i : Nat) : Pat := match pget P i with
  | some .second => pput P i none
  | _ => P
def pkp (P : Pat) : Nat → Pat
  | 0 => P
  | i + 1 => pk1 P i
def ps1 (P : Pat) (i : Nat) (v : Value) : Pat := pput (pk2 (pkp P i) (i + 1)) i (some (.val v))
def ps2 (P : Pat) (i : Nat) (v : Value) : Pat := pput (pput (pk2 (pkp P i) (i + 2)) i (some (.val v))) (i + 1) (some .second)
def WFl (L : Array Slot) : Prop := (∀ i : Nat, L[i]? = some .second → ∃ (j : Nat) (v : Value), i = j + 1 ∧ L[j]? = some (.val v) ∧ v.category = 2) ∧ (∀ (i : Nat) (v : Value), L[i]? = some (.val v) → v.category = 2 → L[i + 1]? = some .second)
def Fits (P : Pat) (L : Array Slot) : Prop := (∀ i s, pget P i = some s → L[i]? = some s) ∧ WFl L
theorem pk1_sub {P : Pat} {i j : Nat} {s : Slot} (h : pget (pk1 P i) j = some s) : pget P j = some s ∧ (j = i → ∀ w : Value, s = .val w → w.category = 1) := by
  unfold pk1 at h
  split at h
  · rcases pget_pput _ _ _ _ _ h with ⟨-, e⟩ | ⟨e, r⟩
    · cases e
    · exact ⟨r, fun q => absurd q e⟩
  · rcases pget_pput _ _ _ _ _ h with ⟨-, e⟩ | ⟨e, r⟩
    · cases e
    · exact ⟨r, fun q => absurd q e⟩
  · rename_i h1 h2
    refine ⟨h, fun q w e => ?_⟩
    subst q e
    cases w <;> first | rfl | exact absurd h (h1 _) | exact absurd h (h2 _)
theorem pk2_sub {P : Pat} {i j : Nat} {s : Slot} (h : pget (pk2 P i) j = some s) : pget P j = some s ∧ (j = i → s ≠ .second) := by
  unfold pk2 at h
  split at h
  · rcases pget_pput _ _ _ _ _ h with ⟨-, e⟩ | ⟨e, r⟩
    · cases e
    · exact ⟨r, fun q => absurd q e⟩
  · rename_i h1
    refine ⟨h, fun q e => ?_⟩
    subst q e; exact h1 h
theorem pkp_sub {P : Pat} {i j : Nat} {s : Slot} (h : pget (pkp P i) j = some s) : pget P j = some s ∧ (j + 1 = i → ∀ w : Value, s = .val w → w.category = 1) := by
  cases i with
  | zero => exact ⟨h, fun q => by omega⟩
  | succ i => obtain ⟨h1, h2⟩ := pk1_sub (show pget (pk1 P i) j = some s from h); exact ⟨h1, fun q => h2 (by omega)⟩
theorem setAt_eq {L : Array Slot} {i : Nat} {x : Slot} (hi : i < L.size) : Jvm.setAt L i x = some (L.setIfInBounds i x) := by simp [Jvm.setAt, hi]
theorem sl_second {L : Array Slot} {i : Nat} {v : Value} (ho : L[i]? = some .second) : storeLocals L i v = (Jvm.setAt L (i - 1) .unset).bind fun l => storeSelf l i v := by
  unfold storeLocals; rw [ho]; rfl
theorem sl_unset {L : Array Slot} {i : Nat} {v : Value} (ho : L[i]? = some .unset) : storeLocals L i v = storeSelf L i v := by
  unfold storeLocals; rw [ho]; rfl
theorem sl_val {L : Array Slot} {i : Nat} {v o : Value} (ho : L[i]? = some (.val o)) : storeLocals L i v = if o.category = 2 then (Jvm.setAt L (i + 1) .unset).bind fun l => storeSelf l i v else storeSelf L i v := by
  unfold storeLocals; rw [ho]; rfl
theorem ss_one {L : Array Slot} {i : Nat} {v : Value} (hi : i < L.size) (hv : ¬ v.category = 2) : storeSelf L i v = some (L.setIfInBounds i (.val v)) := by
  unfold storeSelf; rw [setAt_eq hi]; simp [hv]
theorem ss_two {L : Array Slot} {i : Nat} {v : Value} {o : Slot} (hi : i < L.size) (hv : v.category = 2) (ho : L[i + 1]? = some o) : storeSelf L i v = (match o with
    | .val old => if old.category = 2 then (Jvm.setAt (L.setIfInBounds i (.val v)) (i + 2) .unset).bind fun l => Jvm.setAt l (i + 1) .second else Jvm.setAt (L.setIfInBounds i (.val v)) (i + 1) .second
    | _ => Jvm.setAt (L.setIfInBounds i (.val v)) (i + 1) .second) := by
  have e : (L.setIfInBounds i (.val v))[i + 1]? = some o := by rw [Array.getElem?_setIfInBounds_ne (by omega)]; exact ho
  unfold storeSelf; rw [setAt_eq hi]
  show (if v.category = 2 then _ else _) = _
  rw [if_pos hv, e]
  cases o <;> rfl
theorem cat12 (v : Value) : v.category = 1 ∨ v.category = 2 := by cases v <;> first | exact Or.inl rfl | exact Or.inr rfl
/-- a one-word store: what stands elsewhere stays, but for the halves of a two-word value that it breaks -/
theorem store_one {L : Array Slot} {i : Nat} {v : Value} (hW : WFl L) (hi : i < L.size) (hv : v.category = 1) :
    ∃ L', storeLocals L i v = some L' ∧ L'.size = L.size ∧ WFl L' ∧ L'[i]? = some (.val v) ∧ ∀ j, j ≠ i → L'[j]? = L[j]? ∨ (j + 1 = i ∧ L[i]? = some .second) ∨ (j = i + 1 ∧ L[j]? = some .second) := by
  have hv2 : ¬ v.category = 2 := by omega
  cases ho : L[i]? with
  | none => rw [Array.getElem?_eq_none_iff] at ho; omega
  | some o =>
    cases o with
    | unset =>
      refine ⟨L.setIfInBounds i (.val v), ?_, by simp, ?_, by simp [hi], fun j hj => Or.inl (Array.getElem?_setIfInBounds_ne (Ne.symm hj))⟩
      · rw [sl_unset ho, ss_one hi hv2]
      · refine ⟨fun j hj => ?_, fun j w hj hw => ?_⟩
        · by_cases e : j = i
          · subst e; simp [hi] at hj
          · rw [Array.getElem?_setIfInBounds_ne (Ne.symm e)] at hj
            obtain ⟨j', w, e1, e2, e3⟩ := hW.1 j hj
            refine ⟨j', w, e1, ?_, e3⟩
            rw [Array.getElem?_setIfInBounds_ne]; exact e2
            intro q; subst q; rw [ho] at e2; cases e2
        · by_cases e : j = i
          · subst e; simp [hi] at hj; subst hj; omega
          · rw [Array.getElem?_setIfInBounds_ne (Ne.symm e)] at hj
            have := hW.2 j w hj hw
            rw [Array.getElem?_setIfInBounds_ne]; exact this
            intro q; subst q; rw [ho] at this; cases this
    | second =>
      obtain ⟨j0, w0, rfl, f2, f3⟩ := hW.1 i ho
      have hj0 : j0 < L.size := by omega
      refine ⟨(L.setIfInBounds j0 .unset).setIfInBounds (j0 + 1) (.val v), ?_, by simp, ?_, by simp [hi], fun j hj => ?_⟩
      · rw [sl_second ho, show j0 + 1 - 1 = j0 from rfl, setAt_eq hj0]; exact ss_one (by simpa using hi) hv2
      · refine ⟨fun j hj => ?_, fun j w hj hw => ?_⟩
        · by_cases e : j = j0 + 1
          · subst e; simp [hi] at hj
          · rw [Array.getElem?_setIfInBounds_ne (Ne.symm e)] at hj
            by_cases e' : j = j0
            · subst e'; simp [hj0] at hj
            · rw [Array.getElem?_setIfInBounds_ne (Ne.symm e')] at hj
              obtain ⟨j', w, e1, e2, e3⟩ := hW.1 j hj
              refine ⟨j', w, e1, ?_, e3⟩
              rw [Array.getElem?_setIfInBounds_ne, Array.getElem?_setIfInBounds_ne]
              · exact e2
              · intro q; subst q; omega
              · intro q; subst q; rw [ho] at e2; cases e2
        · by_cases e : j = j0 + 1
          · subst e; simp [hi] at hj; subst hj; omega
          · rw [Array.getElem?_setIfInBounds_ne (Ne.symm e)] at hj
            by_cases e' : j = j0
            · subst e'; simp [hj0] at hj
            · rw [Array.getElem?_setIfInBounds_ne (Ne.symm e')] at hj
              have := hW.2 j w hj hw
              rw [Array.getElem?_setIfInBounds_ne, Array.getElem?_setIfInBounds_ne]
              · exact this
              · intro q; subst q; rw [f2] at this; cases this
              · omega
      · by_cases e' : j = j0
        · exact Or.inr (Or.inl ⟨by omega, rfl⟩)
        · left; rw [Array.getElem?_setIfInBounds_ne (Ne.symm hj), Array.getElem?_setIfInBounds_ne (Ne.symm e')]
    | val old =>
      by_cases hc : old.category = 2
      · have f2 := hW.2 i old ho hc
        have hi1 : i + 1 < L.size := (Array.getElem?_eq_some_iff.mp f2).1
        refine ⟨(L.setIfInBounds (i + 1) .unset).setIfInBounds i (.val v), ?_, by simp, ?_, by simp [hi], fun j hj => ?_⟩
        · rw [sl_val ho, if_pos hc, setAt_eq hi1]; exact ss_one (by simpa using hi) hv2
        · refine ⟨fun j hj => ?_, fun j w hj hw => ?_⟩
          · by_cases e : j = i
            · subst e; simp [hi] at hj
            · rw [Array.getElem?_setIfInBounds_ne (Ne.symm e)] at hj
              by_cases e' : j = i + 1
              · subst e'; simp [hi1] at hj
              · rw [Array.getElem?_setIfInBounds_ne (Ne.symm e')] at hj
                obtain ⟨j', w, e1, e2, e3⟩ := hW.1 j hj
                refine ⟨j', w, e1, ?_, e3⟩
                rw [Array.getElem?_setIfInBounds_ne, Array.getElem?_setIfInBounds_ne]
                · exact e2
                · intro q; subst q; rw [f2] at e2; cases e2
                · omega
          · by_cases e : j = i
            · subst e; simp [hi] at hj; subst hj; omega
            · rw [Array.getElem?_setIfInBounds_ne (Ne.symm e)] at hj
              by_cases e' : j = i + 1
              · subst e'; simp [hi1] at hj
              · rw [Array.getElem?_setIfInBounds_ne (Ne.symm e')] at hj
                have := hW.2 j w hj hw
                rw [Array.getElem?_setIfInBounds_ne, Array.getElem?_setIfInBounds_ne]
                · exact this
                · omega
                · intro q; subst q; rw [ho] at this; cases this
        · by_cases e' : j = i + 1
          · subst e'; exact Or.inr (Or.inr ⟨rfl, f2⟩)
          · left; rw [Array.getElem?_setIfInBounds_ne (Ne.symm hj), Array.getElem?_setIfInBounds_ne (Ne.symm e')]
      · refine ⟨L.setIfInBounds i (.val v), ?_, by simp, ?_, by simp [hi], fun j hj => Or.inl (Array.getElem?_setIfInBounds_ne (Ne.symm hj))⟩
        · rw [sl_val ho, if_neg hc, ss_one hi hv2]
        · refine ⟨fun j hj => ?_, fun j w hj hw => ?_⟩
          · by_cases e : j = i
            · subst e; simp [hi] at hj
            · rw [Array.getElem?_setIfInBounds_ne (Ne.symm e)] at hj
              obtain ⟨j', w, e1, e2, e3⟩ := hW.1 j hj
              refine ⟨j', w, e1, ?_, e3⟩
              rw [Array.getElem?_setIfInBounds_ne]; exact e2
              intro q; subst q; rw [ho] at e2; cases e2; omega
          · by_cases e : j = i
            · subst e; simp [hi] at hj; subst hj; omega
            · rw [Array.getElem?_setIfInBounds_ne (Ne.symm e)] at hj
              have := hW.2 j w hj hw
              rw [Array.getElem?_setIfInBounds_ne]; exact this
              intro q; subst q; rw [ho] at this; cases this
theorem Fits.store1 {P : Pat} {L : Array Slot} {i : Nat} {v : Value} (h : Fits P L) (hi : i < L.size) (hv : v.category = 1) :
    ∃ L', storeLocals L i v = some L' ∧ L'.size = L.size ∧ Fits (ps1 P i v) L' := by
  obtain ⟨L', e1, e2, e3, e4, e5⟩ := store_one h.2 hi hv
  refine ⟨L', e1, e2, fun j s hj => ?_, e3⟩
  rcases pget_pput _ _ _ _ _ hj with ⟨rfl, q⟩ | ⟨ne, q⟩
  · rw [e4]; exact q
  · obtain ⟨q1, q2⟩ := pk2_sub q
    obtain ⟨q3, q4⟩ := pkp_sub q1
    have hL := h.1 j s q3
    rcases e5 j ne with r | ⟨r1, r2⟩ | ⟨r1, r2⟩
    · rw [r]; exact hL
    · obtain ⟨j', w, z1, z2, z3⟩ := h.2.1 i r2
      have : j' = j := by omega
      subst this
      rw [hL] at z2; cases z2
      have := q4 r1 w rfl; omega
    · rw [hL] at r2; cases r2
      exact absurd rfl (q2 r1)
theorem st_ph1 {L : Array Slot} {i : Nat} {v : Value} (hW : WFl L) (hi : i + 1 < L.size) :
    ∃ A : Array Slot, storeLocals L i v = storeSelf A i v ∧ A.size = L.size ∧ (∀ j, j ≠ i → j ≠ i + 1 → A[j]? = L[j]? ∨ (j + 1 = i ∧ L[i]? = some .second ∧ A[j]? = some .unset)) ∧ (A[i + 1]? = L[i + 1]? ∨ (A[i + 1]? = some .unset ∧ L[i + 1]? = some .second)) ∧ (L[i]? = some .second → ∀ j, j + 1 = i → A[j]? = some .unset) := by
  have hi0 : i < L.size := by omega
  cases ho : L[i]? with
  | none => rw [Array.getElem?_eq_none_iff] at ho; omega
  | some o =>
    cases o with
    | unset => exact ⟨L, sl_unset ho, rfl, fun j _ _ => Or.inl rfl, Or.inl rfl, fun q => by cases q⟩
    | second =>
      obtain ⟨j0, w0, rfl, f2, f3⟩ := hW.1 i ho
      have hj0 : j0 < L.size := by omega
      refine ⟨L.setIfInBounds j0 .unset, by rw [sl_second ho, show j0 + 1 - 1 = j0 from rfl, setAt_eq hj0]; rfl, by simp, fun j h1 h2 => ?_, Or.inl (Array.getElem?_setIfInBounds_ne (by omega)), fun _ j hj => ?_⟩
      · by_cases e : j = j0
        · subst e; exact Or.inr ⟨rfl, rfl, by simp [hj0]⟩
        · exact Or.inl (Array.getElem?_setIfInBounds_ne (Ne.symm e))
      · have : j = j0 := by omega
        subst this; simp [hj0]
    | val old =>
      by_cases hc : old.category = 2
      · refine ⟨L.setIfInBounds (i + 1) .unset, by rw [sl_val ho, if_pos hc, setAt_eq hi]; rfl, by simp, fun j h1 h2 => Or.inl (Array.getElem?_setIfInBounds_ne (Ne.symm h2)), Or.inr ⟨by simp [hi], hW.2 i old ho hc⟩, fun q => by cases q⟩
      · exact ⟨L, by rw [sl_val ho, if_neg hc], rfl, fun j _ _ => Or.inl rfl, Or.inl rfl, fun q => by cases q⟩
theorem st_ph2 {A : Array Slot} {i : Nat} {v : Value} (hi : i + 1 < A.size) (hv : v.category = 2) (hn : ∀ w : Value, A[i + 1]? = some (.val w) → w.category = 2 → i + 2 < A.size) :
    ∃ L', storeSelf A i v = some L' ∧ L'.size = A.size ∧ L'[i]? = some (.val v) ∧ L'[i + 1]? = some .second ∧ (∀ j, j ≠ i → j ≠ i + 1 → L'[j]? = A[j]? ∨ (j = i + 2 ∧ L'[j]? = some .unset ∧ ∃ w : Value, A[i + 1]? = some (.val w) ∧ w.category = 2)) ∧ ((∃ w : Value, A[i + 1]? = some (.val w) ∧ w.category = 2) → L'[i + 2]? = some .unset) := by
  have hi0 : i < A.size := by omega
  have eB : (A.setIfInBounds i (.val v))[i + 1]? = A[i + 1]? := Array.getElem?_setIfInBounds_ne (by omega)
  have plain : (∀ w : Value, A[i + 1]? = some (.val w) → w.category ≠ 2) → storeSelf A i v = some ((A.setIfInBounds i (.val v)).setIfInBounds (i + 1) .second) := fun hq => by
    cases ho : A[i + 1]? with
    | none => rw [Array.getElem?_eq_none_iff] at ho; omega
    | some o => cases o with
      | unset => rw [ss_two hi0 hv ho]; exact setAt_eq (by simpa using hi)
      | second => rw [ss_two hi0 hv ho]; exact setAt_eq (by simpa using hi)
      | val w => have := hq w ho; rw [ss_two hi0 hv ho]; simp only [if_neg this]; exact setAt_eq (by simpa using hi)
  by_cases hw : ∃ w : Value, A[i + 1]? = some (.val w) ∧ w.category = 2
  · obtain ⟨w, h1, h2⟩ := hw
    have h3 := hn w h1 h2
    refine ⟨((A.setIfInBounds i (.val v)).setIfInBounds (i + 2) .unset).setIfInBounds (i + 1) .second, by rw [ss_two hi0 hv h1]; simp only [if_pos h2]; rw [setAt_eq (by simpa using h3)]; exact setAt_eq (by simpa using hi), by simp, ?_, by simp [hi], fun j a b => ?_, fun _ => ?_⟩
    · rw [Array.getElem?_setIfInBounds_ne (by omega), Array.getElem?_setIfInBounds_ne (by omega)]; simp [hi0]
    · rw [Array.getElem?_setIfInBounds_ne (by omega)]
      by_cases e : j = i + 2
      · subst e; exact Or.inr ⟨rfl, by simp [h3], w, h1, h2⟩
      · left; rw [Array.getElem?_setIfInBounds_ne (by omega), Array.getElem?_setIfInBounds_ne (by omega)]
    · rw [Array.getElem?_setIfInBounds_ne (by omega)]; simp [h3]
  · refine ⟨_, plain fun w h1 h2 => hw ⟨w, h1, h2⟩, by simp, ?_, by simp [hi], fun j a b => Or.inl ?_, fun q => absurd q hw⟩
    · rw [Array.getElem?_setIfInBounds_ne (by omega)]; simp [hi0]
    · rw [Array.getElem?_setIfInBounds_ne (by omega), Array.getElem?_setIfInBounds_ne (by omega)]
theorem store_two {L : Array Slot} {i : Nat} {v : Value} (hW : WFl L) (hi : i + 1 < L.size) (hv : v.category = 2) :
    ∃ L', storeLocals L i v = some L' ∧ L'.size = L.size ∧ WFl L' ∧ L'[i]? = some (.val v) ∧ L'[i + 1]? = some .second ∧ ∀ j, j ≠ i → j ≠ i + 1 → L'[j]? = L[j]? ∨ (j + 1 = i ∧ L[i]? = some .second) ∨ (j = i + 2 ∧ L[j]? = some .second) := by
  obtain ⟨A, a1, a2, a3, a4, a5⟩ := st_ph1 (v := v) hW hi
  have a6 : ∀ w : Value, A[i + 1]? = some (.val w) → w.category = 2 → L[i + 2]? = some .second := fun w h1 h2 => by
    rcases a4 with e | ⟨e, -⟩
    · rw [e] at h1; exact hW.2 _ _ h1 h2
    · rw [e] at h1; cases h1
  obtain ⟨L', b1, b2, b3, b4, b5, b6⟩ := st_ph2 (A := A) (i := i) (v := v) (by omega) hv (fun w h1 h2 => by have := (Array.getElem?_eq_some_iff.mp (a6 w h1 h2)).1; omega)
  have c : ∀ j, j ≠ i → j ≠ i + 1 → L'[j]? = L[j]? ∨ (j + 1 = i ∧ L[i]? = some .second ∧ L'[j]? = some .unset) ∨ (j = i + 2 ∧ L[j]? = some .second ∧ L'[j]? = some .unset) := fun j h1 h2 => by
    rcases b5 j h1 h2 with e | ⟨e1, e2, w, e3, e4⟩
    · rcases a3 j h1 h2 with r | ⟨r1, r2, r3⟩
      · exact Or.inl (e.trans r)
      · exact Or.inr (Or.inl ⟨r1, r2, e.trans r3⟩)
    · subst e1; exact Or.inr (Or.inr ⟨rfl, a6 w e3 e4, e2⟩)
  have cs : L[i]? = some .second → ∀ j, j + 1 = i → L'[j]? = some .unset := fun q j hj => by
    rcases b5 j (by omega) (by omega) with e | ⟨e1, -⟩
    · exact e.trans (a5 q j hj)
    · omega
  have c2 : L[i + 2]? = some .second → L'[i + 2]? = some .unset := fun q => by
    obtain ⟨j', w, z1, z2, z3⟩ := hW.1 _ q
    have : j' = i + 1 := by omega
    subst this
    rcases a4 with e | ⟨-, e⟩
    · exact b6 ⟨w, e.trans z2, z3⟩
    · rw [e] at z2; cases z2
  refine ⟨L', a1.trans b1, b2.trans a2, ⟨fun j hj => ?_, fun j w hj hw => ?_⟩, b3, b4, fun j h1 h2 => ?_⟩
  · by_cases e0 : j = i
    · subst e0; rw [b3] at hj; cases hj
    by_cases e1 : j = i + 1
    · exact ⟨i, v, e1, b3, hv⟩
    rcases c j e0 e1 with r | ⟨-, -, r⟩ | ⟨-, -, r⟩
    · rw [r] at hj
      obtain ⟨j', w, z1, z2, z3⟩ := hW.1 j hj
      refine ⟨j', w, z1, ?_, z3⟩
      have n0 : j' ≠ i := by omega
      by_cases n1 : j' = i + 1
      · have : j = i + 2 := by omega
        subst this
        rw [c2 hj] at r; rw [hj] at r; cases r
      rcases c j' n0 n1 with u | ⟨u, -, -⟩ | ⟨-, u, -⟩
      · exact u.trans z2
      · omega
      · rw [z2] at u; cases u
    · rw [r] at hj; cases hj
    · rw [r] at hj; cases hj
  · by_cases e0 : j = i
    · subst e0; exact b4
    by_cases e1 : j = i + 1
    · subst e1; rw [b4] at hj; cases hj
    rcases c j e0 e1 with r | ⟨-, -, r⟩ | ⟨-, -, r⟩
    · have hj' := hj
      rw [r] at hj
      have z := hW.2 j w hj hw
      by_cases n0 : j + 1 = i
      · subst n0; rw [cs z j rfl] at hj'; cases hj'
      by_cases n1 : j + 1 = i + 1
      · omega
      rcases c (j + 1) n0 n1 with u | ⟨u1, u2, -⟩ | ⟨u, -, -⟩
      · exact u.trans z
      · obtain ⟨j', w', y1, y2, y3⟩ := hW.1 i u2
        have : j' = j + 1 := by omega
        subst this; rw [z] at y2; cases y2
      · omega
    · rw [r] at hj; cases hj
    · rw [r] at hj; cases hj
  · rcases c j h1 h2 with r | ⟨r1, r2, -⟩ | ⟨r1, r2, -⟩
    · exact Or.inl r
    · exact Or.inr (Or.inl ⟨r1, r2⟩)
    · exact Or.inr (Or.inr ⟨r1, r2⟩)
theorem Fits.store2 {P : Pat} {L : Array Slot} {i : Nat} {v : Value} (h : Fits P L) (hi : i + 1 < L.size) (hv : v.category = 2) :
    ∃ L', storeLocals L i v = some L' ∧ L'.size = L.size ∧ Fits (ps2 P i v) L' := by
  obtain ⟨L', e1, e2, e3, e4, e4', e5⟩ := store_two h.2 hi hv
  refine ⟨L', e1, e2, fun j s hj => ?_, e3⟩
  rcases pget_pput _ _ _ _ _ hj with ⟨rfl, q⟩ | ⟨ne, q⟩
  · rw [e4']; exact q
  rcases pget_pput _ _ _ _ _ q with ⟨rfl, q'⟩ | ⟨ne', q'⟩
  · rw [e4]; exact q'
  obtain ⟨q1, q2⟩ := pk2_sub q'
  obtain ⟨q3, q4⟩ := pkp_sub q1
  have hL := h.1 j s q3
  rcases e5 j ne' ne with r | ⟨r1, r2⟩ | ⟨r1, r2⟩
  · rw [r]; exact hL
  · obtain ⟨j', w, z1, z2, z3⟩ := h.2.1 i r2
    have : j' = j := by omega
    subst this
    rw [hL] at z2; cases z2
    have := q4 r1 w rfl; omega
  · rw [hL] at r2; cases r2
    exact absurd rfl (q2 r1)
/- what a body does from a place on -/
def Runs (C : Ctx) (M : Bdy) (k n pc : Nat) (P : Pat) (S : List Value) (G : AH) (Q : Option Value → AH → Prop) : Prop :=
  Ok C → ∀ (p : Program) (e : Env) (s : State) (m : MethodId) (args : Array Value) (below : List Frame) (meth : Method) (c : Code) (T : State) (locs : List Loc) (L : Array Slot),
    p.tables.exec = Jvm.exec → c.code = M.2.1 → c.maxLocals = M.2.2.1 → meth.sig.returnType = M.2.2.2.1 → meth.name = M.1.name → s.vm.findClass M.1.cls = some m.cls → C.2.1.Warmed39 s.vm →
    Fits P L → L.size = M.2.2.1 → Stand p C.1 e M.2.2.2.2 s m args below meth c T locs k n → Rep C.2.1 C.2.2.1 T.heap G → Fr C.2.2.1 locs →
    ∃ (T' : State) (locs' : List Loc) (k' n' : Nat) (r : Option Value) (G' : AH), Stand p C.1 e M.2.2.2.2 s m args below meth c T' locs' k' n' ∧ k' ≤ M.2.2.2.2.cells ∧ n' ≤ M.2.2.2.2.slots ∧ Rep C.2.1 C.2.2.1 T'.heap G' ∧ Fr C.2.2.1 locs' ∧ Q r G' ∧
      (M.2.2.2.1 = none → r = none) ∧
      ∀ fs : List Frame, (∀ (f : JFrame) (acts : List Action), f.method = m → f.locked = none → f.entered = [] → (doReturn e (T'.setTop f) acts r).1 = T'.setFrames fs) → Steps p.tables e below (T.setTop (mkF m pc L S)) (T'.setFrames fs)
section Rules
variable {C : Ctx} {M : Bdy} {k n pc q : Nat} {P P' : Pat} {S S' : List Value} {G : AH} {Q : Option Value → AH → Prop}
/-- a step that leaves the heap alone -/
theorem Runs.pure {i : Instr} {len : Nat} (d : DAt M pc i len q) {pc' : Nat}
    (st : ∀ (p : Program) (e : Env) (s : State) (m : MethodId) (args : Array Value) (below : List Frame) (meth : Method) (c : Code) (T : State) (locs : List Loc) (L : Array Slot), Ok C → p.tables.exec = Jvm.exec → s.vm.findClass M.1.cls = some m.cls → C.2.1.Warmed39 s.vm → decode c.code pc = .ok (i, len) → Fits P L → L.size = M.2.2.1 → Rep C.2.1 C.2.2.1 T.heap G →
      Stand p C.1 e M.2.2.2.2 s m args below meth c T locs k n → ∃ L', Fits P' L' ∧ L'.size = M.2.2.1 ∧ ∀ t, Steps p.tables e below (T.setTop (mkF m pc' L' S')) t → Steps p.tables e below (T.setTop (mkF m pc L S)) t)
    (h : Runs C M k n pc' P' S' G Q) : Runs C M k n pc P S G Q := by
  intro hw p e s m args below meth c T locs L hx hby hml hret hnm hown hZ hP hsz X hR hF
  obtain ⟨L', f1, f2, f3⟩ := st p e s m args below meth c T locs L hw hx hown hZ (hb hby d.1) hP hsz hR X
  obtain ⟨T', locs', k', n', r, G', g1, g2, g3, g4, g5, g6, g7, g8⟩ := h hw p e s m args below meth c T locs L' hx hby hml hret hnm hown hZ f1 f2 X hR hF
  exact ⟨T', locs', k', n', r, G', g1, g2, g3, g4, g5, g6, g7, fun fs hr => f3 _ (g8 fs hr)⟩
/-- a step that keeps the locals and what the heap says -/
theorem Runs.stk {i : Instr} {len : Nat} (d : DAt M pc i len q)
    (st : ∀ (p : Program) (e : Env) (s : State) (m : MethodId) (args : Array Value) (below : List Frame) (meth : Method) (c : Code) (T : State) (locs : List Loc) (L : Array Slot), p.tables.exec = Jvm.exec → decode c.code pc = .ok (i, len) → Fits P L →
      Stand p C.1 e M.2.2.2.2 s m args below meth c T locs k n → ∀ t, Steps p.tables e below (T.setTop (mkF m (pc + len) L S')) t → Steps p.tables e below (T.setTop (mkF m pc L S)) t)
    (h : Runs C M k n q P S' G Q) : Runs C M k n pc P S G Q := by
  have hq := d.2
  subst hq
  exact Runs.pure d (fun p e s m args below meth c T locs L _ hx _ _ hd hP hsz _ X => ⟨L, hP, hsz, st p e s m args below meth c T locs L hx hd hP X⟩) h
theorem Runs.iloadN {j : Fin 4} {v : Int32} (d : DAt M pc (.iload_n j) 1 q) (hl : pget P j.val = vi v) (h : Runs C M k n q P (.int v :: S) G Q) : Runs C M k n pc P S G Q :=
  Runs.stk d (fun p e s m args below meth c T locs L hx hd hP X t r => XS.iloadN (g := mkF m pc L S) X.here hx rfl hd (hP.1 _ _ hl) r) h
theorem Runs.iload {j : Nat} {v : Int32} (d : DAt M pc (.iload j) 2 q) (hl : pget P j = vi v) (h : Runs C M k n q P (.int v :: S) G Q) : Runs C M k n pc P S G Q :=
  Runs.stk d (fun p e s m args below meth c T locs L hx hd hP X t r => XS.iload (g := mkF m pc L S) X.here hx rfl hd (hP.1 _ _ hl) r) h
theorem Runs.lloadN {j : Fin 4} {v : Int64} (d : DAt M pc (.lload_n j) 1 q) (hl : pget P j.val = vl v) (h : Runs C M k n q P (.long v :: S) G Q) : Runs C M k n pc P S G Q :=
  Runs.stk d (fun p e s m args below meth c T locs L hx hd hP X t r => XS.lloadN (g := mkF m pc L S) X.here hx rfl hd (hP.1 _ _ hl) r) h
theorem Runs.lload {j : Nat} {v : Int64} (d : DAt M pc (.lload j) 2 q) (hl : pget P j = vl v) (h : Runs C M k n q P (.long v :: S) G Q) : Runs C M k n pc P S G Q :=
  Runs.stk d (fun p e s m args below meth c T locs L hx hd hP X t r => XS.lload (g := mkF m pc L S) X.here hx rfl hd (hP.1 _ _ hl) r) h
theorem Runs.aloadN {j : Fin 4} {v : Nat} (d : DAt M pc (.aload_n j) 1 q) (hl : pget P j.val = vr v) (h : Runs C M k n q P (.ref v :: S) G Q) : Runs C M k n pc P S G Q :=
  Runs.stk d (fun p e s m args below meth c T locs L hx hd hP X t r => XS.aloadN (g := mkF m pc L S) X.here hx rfl hd (hP.1 _ _ hl) rfl r) h
theorem Runs.aload {j : Nat} {v : Nat} (d : DAt M pc (.aload j) 2 q) (hl : pget P j = vr v) (h : Runs C M k n q P (.ref v :: S) G Q) : Runs C M k n pc P S G Q :=
  Runs.stk d (fun p e s m args below meth c T locs L hx hd hP X t r => XS.aload (g := mkF m pc L S) X.here hx rfl hd (hP.1 _ _ hl) rfl r) h
theorem Runs.iconst {i : Int} {v : Int32} (d : DAt M pc (.iconst i) 1 q) (hv : Int32.ofInt i = v) (h : Runs C M k n q P (.int v :: S) G Q) : Runs C M k n pc P S G Q :=
  Runs.stk d (fun p e s m args below meth c T locs L hx hd hP X t r => XS.iconst (g := mkF m pc L S) X.here hx rfl hd (by rw [hv]; exact r)) h
theorem Runs.bipush {i : Int} {v : Int32} (d : DAt M pc (.bipush i) 2 q) (hv : (Int8.ofInt i).toInt32 = v) (h : Runs C M k n q P (.int v :: S) G Q) : Runs C M k n pc P S G Q :=
  Runs.stk d (fun p e s m args below meth c T locs L hx hd hP X t r => XS.bipush (g := mkF m pc L S) X.here hx rfl hd (by rw [hv]; exact r)) h
theorem Runs.sipush {i : Int} {v : Int32} (d : DAt M pc (.sipush i) 3 q) (hv : (Int16.ofInt i).toInt32 = v) (h : Runs C M k n q P (.int v :: S) G Q) : Runs C M k n pc P S G Q :=
  Runs.stk d (fun p e s m args below meth c T locs L hx hd hP X t r => XS.sipush (g := mkF m pc L S) X.here hx rfl hd (by rw [hv]; exact r)) h
theorem Runs.lconst {i : Fin 2} {v : Int64} (d : DAt M pc (.lconst i) 1 q) (hv : Int64.ofNat i = v) (h : Runs C M k n q P (.long v :: S) G Q) : Runs C M k n pc P S G Q :=
  Runs.stk d (fun p e s m args below meth c T locs L hx hd hP X t r => Jvm.Free.XT.lconstV (g := mkF m pc L S) X.here hx rfl v hd hv r) h
theorem Runs.ldc {i : Nat} {v : Int32} (d : DAt M pc (.ldc i) 2 q) (w : Jvm.Cond.constant M.1.cls i v ∈ tables_1) (h : Runs C M k n q P (.int v :: S) G Q) : Runs C M k n pc P S G Q := by
  have hq := d.2
  subst hq
  exact Runs.pure d (fun p e s m args below meth c T locs L hw hx hown hZ hd hP hsz _ X => ⟨L, hP, hsz, fun t r => X.ldcInt hx hown (mvT hZ (hw _ w)) (g := mkF m pc L S) rfl hd t r⟩) h
theorem Runs.ldc2 {i : Nat} {v : Int64} (d : DAt M pc (.ldc2_w i) 3 q) (w : Jvm.Cond.constantLong M.1.cls i v ∈ tables_1) (h : Runs C M k n q P (.long v :: S) G Q) : Runs C M k n pc P S G Q := by
  have hq := d.2
  subst hq
  exact Runs.pure d (fun p e s m args below meth c T locs L hw hx hown hZ hd hP hsz _ X => ⟨L, hP, hsz, fun t r => X.ldc2Long hx hown (mvT hZ (hw _ w)) (g := mkF m pc L S) rfl hd t r⟩) h
theorem Runs.iadd {x y : Int32} (d : DAt M pc .iadd 1 q) (h : Runs C M k n q P (.int (x + y) :: S) G Q) : Runs C M k n pc P (.int y :: .int x :: S) G Q :=
  Runs.stk d (fun p e s m args below meth c T locs L hx hd hP X t r => XS.iadd (g := mkF m pc L (.int y :: .int x :: S)) X.here hx rfl hd rfl r) h
theorem Runs.isub {x y : Int32} (d : DAt M pc .isub 1 q) (h : Runs C M k n q P (.int (x - y) :: S) G Q) : Runs C M k n pc P (.int y :: .int x :: S) G Q :=
  Runs.stk d (fun p e s m args below meth c T locs L hx hd hP X t r => XS.isub (g := mkF m pc L (.int y :: .int x :: S)) X.here hx rfl hd rfl r) h
theorem Runs.imul {x y : Int32} (d : DAt M pc .imul 1 q) (h : Runs C M k n q P (.int (x * y) :: S) G Q) : Runs C M k n pc P (.int y :: .int x :: S) G Q :=
  Runs.stk d (fun p e s m args below meth c T locs L hx hd hP X t r => XS.imul (g := mkF m pc L (.int y :: .int x :: S)) X.here hx rfl hd rfl r) h
theorem Runs.iand {x y : Int32} (d : DAt M pc .iand 1 q) (h : Runs C M k n q P (.int (x &&& y) :: S) G Q) : Runs C M k n pc P (.int y :: .int x :: S) G Q :=
  Runs.stk d (fun p e s m args below meth c T locs L hx hd hP X t r => XS.iand (g := mkF m pc L (.int y :: .int x :: S)) X.here hx rfl hd rfl r) h
theorem Runs.ior {x y : Int32} (d : DAt M pc .ior 1 q) (h : Runs C M k n q P (.int (x ||| y) :: S) G Q) : Runs C M k n pc P (.int y :: .int x :: S) G Q :=
  Runs.stk d (fun p e s m args below meth c T locs L hx hd hP X t r => XS.ior (g := mkF m pc L (.int y :: .int x :: S)) X.here hx rfl hd rfl r) h
theorem Runs.ixor {x y : Int32} (d : DAt M pc .ixor 1 q) (h : Runs C M k n q P (.int (x ^^^ y) :: S) G Q) : Runs C M k n pc P (.int y :: .int x :: S) G Q :=
  Runs.stk d (fun p e s m args below meth c T locs L hx hd hP X t r => XS.ixor (g := mkF m pc L (.int y :: .int x :: S)) X.here hx rfl hd rfl r) h
theorem Runs.ladd {x y : Int64} (d : DAt M pc .ladd 1 q) (h : Runs C M k n q P (.long (x + y) :: S) G Q) : Runs C M k n pc P (.long y :: .long x :: S) G Q :=
  Runs.stk d (fun p e s m args below meth c T locs L hx hd hP X t r => XS.ladd (g := mkF m pc L (.long y :: .long x :: S)) X.here hx rfl hd rfl r) h
theorem Runs.lsub {x y : Int64} (d : DAt M pc .lsub 1 q) (h : Runs C M k n q P (.long (x - y) :: S) G Q) : Runs C M k n pc P (.long y :: .long x :: S) G Q :=
  Runs.stk d (fun p e s m args below meth c T locs L hx hd hP X t r => XS.lsub (g := mkF m pc L (.long y :: .long x :: S)) X.here hx rfl hd rfl r) h
theorem Runs.lmul {x y : Int64} (d : DAt M pc .lmul 1 q) (h : Runs C M k n q P (.long (x * y) :: S) G Q) : Runs C M k n pc P (.long y :: .long x :: S) G Q :=
  Runs.stk d (fun p e s m args below meth c T locs L hx hd hP X t r => XS.lmul (g := mkF m pc L (.long y :: .long x :: S)) X.here hx rfl hd rfl r) h
theorem Runs.land {x y : Int64} (d : DAt M pc .land 1 q) (h : Runs C M k n q P (.long (x &&& y) :: S) G Q) : Runs C M k n pc P (.long y :: .long x :: S) G Q :=
  Runs.stk d (fun p e s m args below meth c T locs L hx hd hP X t r => XS.land (g := mkF m pc L (.long y :: .long x :: S)) X.here hx rfl hd rfl r) h
theorem Runs.lor {x y : Int64} (d : DAt M pc .lor 1 q) (h : Runs C M k n q P (.long (x ||| y) :: S) G Q) : Runs C M k n pc P (.long y :: .long x :: S) G Q :=
  Runs.stk d (fun p e s m args below meth c T locs L hx hd hP X t r => XS.lor (g := mkF m pc L (.long y :: .long x :: S)) X.here hx rfl hd rfl r) h
theorem Runs.lxor {x y : Int64} (d : DAt M pc .lxor 1 q) (h : Runs C M k n q P (.long (x ^^^ y) :: S) G Q) : Runs C M k n pc P (.long y :: .long x :: S) G Q :=
  Runs.stk d (fun p e s m args below meth c T locs L hx hd hP X t r => XS.lxor (g := mkF m pc L (.long y :: .long x :: S)) X.here hx rfl hd rfl r) h
theorem Runs.ishl {x : Int32} {y : Int32} (d : DAt M pc .ishl 1 q) (h : Runs C M k n q P (.int (x <<< (y &&& 31)) :: S) G Q) : Runs C M k n pc P (.int y :: .int x :: S) G Q :=
  Runs.stk d (fun p e s m args below meth c T locs L hx hd hP X t r => XS.ishl (g := mkF m pc L (.int y :: .int x :: S)) X.here hx rfl hd rfl r) h
theorem Runs.ishr {x : Int32} {y : Int32} (d : DAt M pc .ishr 1 q) (h : Runs C M k n q P (.int (x >>> (y &&& 31)) :: S) G Q) : Runs C M k n pc P (.int y :: .int x :: S) G Q :=
  Runs.stk d (fun p e s m args below meth c T locs L hx hd hP X t r => XS.ishr (g := mkF m pc L (.int y :: .int x :: S)) X.here hx rfl hd rfl r) h
theorem Runs.iushr {x : Int32} {y : Int32} (d : DAt M pc .iushr 1 q) (h : Runs C M k n q P (.int ((x.toUInt32 >>> (y &&& 31).toUInt32).toInt32) :: S) G Q) : Runs C M k n pc P (.int y :: .int x :: S) G Q :=
  Runs.stk d (fun p e s m args below meth c T locs L hx hd hP X t r => XS.iushr (g := mkF m pc L (.int y :: .int x :: S)) X.here hx rfl hd rfl r) h
theorem Runs.lshl {x : Int64} {y : Int32} (d : DAt M pc .lshl 1 q) (h : Runs C M k n q P (.long (x <<< (y &&& 0x3f).toInt64) :: S) G Q) : Runs C M k n pc P (.int y :: .long x :: S) G Q :=
  Runs.stk d (fun p e s m args below meth c T locs L hx hd hP X t r => XS.lshl (g := mkF m pc L (.int y :: .long x :: S)) X.here hx rfl hd rfl r) h
theorem Runs.lshr {x : Int64} {y : Int32} (d : DAt M pc .lshr 1 q) (h : Runs C M k n q P (.long (x >>> (y &&& 0x3f).toInt64) :: S) G Q) : Runs C M k n pc P (.int y :: .long x :: S) G Q :=
  Runs.stk d (fun p e s m args below meth c T locs L hx hd hP X t r => XS.lshr (g := mkF m pc L (.int y :: .long x :: S)) X.here hx rfl hd rfl r) h
theorem Runs.lushr {x : Int64} {y : Int32} (d : DAt M pc .lushr 1 q) (h : Runs C M k n q P (.long ((x.toUInt64 >>> (y &&& 0x3f).toInt64.toUInt64).toInt64) :: S) G Q) : Runs C M k n pc P (.int y :: .long x :: S) G Q :=
  Runs.stk d (fun p e s m args below meth c T locs L hx hd hP X t r => XS.lushr (g := mkF m pc L (.int y :: .long x :: S)) X.here hx rfl hd rfl r) h
theorem Runs.ineg {x : Int32} (d : DAt M pc .ineg 1 q) (h : Runs C M k n q P (.int (-x) :: S) G Q) : Runs C M k n pc P (.int x :: S) G Q :=
  Runs.stk d (fun p e s m args below meth c T locs L hx hd hP X t r => XS.ineg (g := mkF m pc L (.int x :: S)) X.here hx rfl hd rfl r) h
theorem Runs.lneg {x : Int64} (d : DAt M pc .lneg 1 q) (h : Runs C M k n q P (.long (-x) :: S) G Q) : Runs C M k n pc P (.long x :: S) G Q :=
  Runs.stk d (fun p e s m args below meth c T locs L hx hd hP X t r => XS.lneg (g := mkF m pc L (.long x :: S)) X.here hx rfl hd rfl r) h
theorem Runs.i2l {x : Int32} (d : DAt M pc .i2l 1 q) (h : Runs C M k n q P (.long x.toInt64 :: S) G Q) : Runs C M k n pc P (.int x :: S) G Q :=
  Runs.stk d (fun p e s m args below meth c T locs L hx hd hP X t r => XS.i2l (g := mkF m pc L (.int x :: S)) X.here hx rfl hd rfl r) h
theorem Runs.l2i {x : Int64} (d : DAt M pc .l2i 1 q) (h : Runs C M k n q P (.int x.toInt32 :: S) G Q) : Runs C M k n pc P (.long x :: S) G Q :=
  Runs.stk d (fun p e s m args below meth c T locs L hx hd hP X t r => XS.l2i (g := mkF m pc L (.long x :: S)) X.here hx rfl hd rfl r) h
theorem Runs.lcmp {x y : Int64} (d : DAt M pc .lcmp 1 q) (h : Runs C M k n q P (.int (lcmpW x y) :: S) G Q) : Runs C M k n pc P (.long y :: .long x :: S) G Q :=
  Runs.stk d (fun p e s m args below meth c T locs L hx hd hP X t r => XS.lcmp (g := mkF m pc L (.long y :: .long x :: S)) X.here hx rfl hd rfl r) h
theorem Runs.idiv {x y : Int32} (d : DAt M pc .idiv 1 q) (hy : y ≠ 0) (h : Runs C M k n q P (.int (x / y) :: S) G Q) : Runs C M k n pc P (.int y :: .int x :: S) G Q :=
  Runs.stk d (fun p e s m args below meth c T locs L hx hd hP X t r => XS.idiv (g := mkF m pc L (.int y :: .int x :: S)) X.here hx rfl hd rfl hy r) h
theorem Runs.irem {x y : Int32} (d : DAt M pc .irem 1 q) (hy : y ≠ 0) (h : Runs C M k n q P (.int (x % y) :: S) G Q) : Runs C M k n pc P (.int y :: .int x :: S) G Q :=
  Runs.stk d (fun p e s m args below meth c T locs L hx hd hP X t r => iremM (g := mkF m pc L (.int y :: .int x :: S)) X hx rfl hd rfl hy r) h
theorem Runs.dup {x : Value} (d : DAt M pc .dup 1 q) (hc : x.category = 1) (h : Runs C M k n q P (x :: x :: S) G Q) : Runs C M k n pc P (x :: S) G Q :=
  Runs.stk d (fun p e s m args below meth c T locs L hx hd hP X t r => XS.dup (g := mkF m pc L (x :: S)) X.here hx rfl hd rfl hc r) h
theorem Runs.dup2 {x y : Value} (d : DAt M pc .dup2 1 q) (hc : x.category = 1) (hc' : y.category = 1) (h : Runs C M k n q P (x :: y :: x :: y :: S) G Q) : Runs C M k n pc P (x :: y :: S) G Q :=
  Runs.stk d (fun p e s m args below meth c T locs L hx hd hP X t r => Jvm.Free.XT.dup2 (g := mkF m pc L (x :: y :: S)) X.here hx rfl hd rfl hc hc' r) h
theorem Runs.pop {x : Value} (d : DAt M pc .pop 1 q) (hc : x.category = 1) (h : Runs C M k n q P S G Q) : Runs C M k n pc P (x :: S) G Q :=
  Runs.stk d (fun p e s m args below meth c T locs L hx hd hP X t r => XS.pop (g := mkF m pc L (x :: S)) X.here hx rfl hd rfl hc r) h
theorem Runs.goto {o : Int} {pc' : Nat} (d : DAt M pc (.goto o) 3 q) (ho : 0 ≤ (pc : Int) + o ∧ ((pc : Int) + o).toNat = pc') (h : Runs C M k n pc' P S G Q) : Runs C M k n pc P S G Q :=
  Runs.pure d (fun p e s m args below meth c T locs L hw hx hown hZ hd hP hsz _ X => ⟨L, hP, hsz, fun t r => XS.goto (g := mkF m pc L S) X.here hx rfl (pc0 := pc) rfl hd ho.1 ho.2 r⟩) h
theorem Runs.ifY {cd : ClassFile.Cond} {x : Int32} {o : Int} {pc' : Nat} (d : DAt M pc (.ifCond cd o) 3 q) (hc : if_icmp.holds cd x 0 = true) (ho : 0 ≤ (pc : Int) + o ∧ ((pc : Int) + o).toNat = pc') (h : Runs C M k n pc' P S G Q) : Runs C M k n pc P (.int x :: S) G Q :=
  Runs.pure d (fun p e s m args below meth c T locs L hw hx hown hZ hd hP hsz _ X => ⟨L, hP, hsz, fun t r => XS.ifYes (g := mkF m pc L (.int x :: S)) X.here hx rfl (pc0 := pc) rfl hd rfl ((if0 _ _).trans hc) ho.1 ho.2 r⟩) h
theorem Runs.ifN {cd : ClassFile.Cond} {x : Int32} {o : Int} (d : DAt M pc (.ifCond cd o) 3 q) (hc : if_icmp.holds cd x 0 = false) (h : Runs C M k n q P S G Q) : Runs C M k n pc P (.int x :: S) G Q :=
  Runs.stk d (fun p e s m args below meth c T locs L hx hd hP X t r => XS.ifNo (g := mkF m pc L (.int x :: S)) X.here hx rfl hd rfl ((if0 _ _).trans hc) r) h
theorem Runs.icY {cd : ClassFile.Cond} {x y : Int32} {o : Int} {pc' : Nat} (d : DAt M pc (.if_icmp cd o) 3 q) (hc : if_icmp.holds cd x y = true) (ho : 0 ≤ (pc : Int) + o ∧ ((pc : Int) + o).toNat = pc') (h : Runs C M k n pc' P S G Q) : Runs C M k n pc P (.int y :: .int x :: S) G Q :=
  Runs.pure d (fun p e s m args below meth c T locs L hw hx hown hZ hd hP hsz _ X => ⟨L, hP, hsz, fun t r => XS.icmpYes (g := mkF m pc L (.int y :: .int x :: S)) X.here hx rfl (pc0 := pc) rfl hd rfl hc ho.1 ho.2 r⟩) h
theorem Runs.icN {cd : ClassFile.Cond} {x y : Int32} {o : Int} (d : DAt M pc (.if_icmp cd o) 3 q) (hc : if_icmp.holds cd x y = false) (h : Runs C M k n q P S G Q) : Runs C M k n pc P (.int y :: .int x :: S) G Q :=
  Runs.stk d (fun p e s m args below meth c T locs L hx hd hP X t r => XS.icmpNo (g := mkF m pc L (.int y :: .int x :: S)) X.here hx rfl hd rfl hc r) h
theorem Runs.tswI {dflt low high : Int} {offs : Array Int} {len : Nat} {o : Int} {pc' : Nat} {i : Int32} (d : DAt M pc (.tableswitch dflt low high offs) len q) (hin : ¬ (i.toInt < low ∨ i.toInt > high)) (hoff : offs[(i.toInt - low).toNat]? = some o) (ho : 0 ≤ (pc : Int) + o ∧ ((pc : Int) + o).toNat = pc') (h : Runs C M k n pc' P S G Q) : Runs C M k n pc P (.int i :: S) G Q :=
  Runs.pure d (fun p e s m args below meth c T locs L hw hx hown hZ hd hP hsz _ X => ⟨L, hP, hsz, fun t r => XS.tswIn (g := mkF m pc L (.int i :: S)) X.here hx rfl (pc0 := pc) rfl hd rfl hin hoff ho.1 ho.2 r⟩) h
theorem Runs.tswO {dflt low high : Int} {offs : Array Int} {len : Nat} {pc' : Nat} {i : Int32} (d : DAt M pc (.tableswitch dflt low high offs) len q) (hout : i.toInt < low ∨ i.toInt > high) (ho : 0 ≤ (pc : Int) + dflt ∧ ((pc : Int) + dflt).toNat = pc') (h : Runs C M k n pc' P S G Q) : Runs C M k n pc P (.int i :: S) G Q :=
  Runs.pure d (fun p e s m args below meth c T locs L hw hx hown hZ hd hP hsz _ X => ⟨L, hP, hsz, fun t r => XS.tswOut (g := mkF m pc L (.int i :: S)) X.here hx rfl (pc0 := pc) rfl hd rfl hout ho.1 ho.2 r⟩) h
theorem Runs.istoreN {j : Fin 4} {x : Int32} (d : DAt M pc (.istore_n j) 1 q) (hi : j.val < M.2.2.1) (hP' : ps1 P j.val (.int x) = P') (h : Runs C M k n q P' S G Q) : Runs C M k n pc P (.int x :: S) G Q := by
  have hq := d.2
  subst hq hP'
  refine Runs.pure d (fun p e s m args below meth c T locs L hw hx hown hZ hd hP hsz _ X => ?_) h
  obtain ⟨L', e1, e2, e3⟩ := hP.store1 (i := j.val) (v := .int x) (by omega) rfl
  exact ⟨L', e3, e2.trans hsz, fun t r => XS.istoreN (g := mkF m pc L (.int x :: S)) X.here hx rfl hd rfl e1 r⟩
theorem Runs.istore {j : Nat} {x : Int32} (d : DAt M pc (.istore j) 2 q) (hi : j < M.2.2.1) (hP' : ps1 P j (.int x) = P') (h : Runs C M k n q P' S G Q) : Runs C M k n pc P (.int x :: S) G Q := by
  have hq := d.2
  subst hq hP'
  refine Runs.pure d (fun p e s m args below meth c T locs L hw hx hown hZ hd hP hsz _ X => ?_) h
  obtain ⟨L', e1, e2, e3⟩ := hP.store1 (i := j) (v := .int x) (by omega) rfl
  exact ⟨L', e3, e2.trans hsz, fun t r => XS.istore (g := mkF m pc L (.int x :: S)) X.here hx rfl hd rfl e1 r⟩
theorem Runs.astoreN {j : Fin 4} {x : Nat} (d : DAt M pc (.astore_n j) 1 q) (hi : j.val < M.2.2.1) (hP' : ps1 P j.val (.ref x) = P') (h : Runs C M k n q P' S G Q) : Runs C M k n pc P (.ref x :: S) G Q := by
  have hq := d.2
  subst hq hP'
  refine Runs.pure d (fun p e s m args below meth c T locs L hw hx hown hZ hd hP hsz _ X => ?_) h
  obtain ⟨L', e1, e2, e3⟩ := hP.store1 (i := j.val) (v := .ref x) (by omega) rfl
  exact ⟨L', e3, e2.trans hsz, fun t r => XS.astoreN (g := mkF m pc L (.ref x :: S)) X.here hx rfl hd rfl rfl e1 r⟩
theorem Runs.astore {j : Nat} {x : Nat} (d : DAt M pc (.astore j) 2 q) (hi : j < M.2.2.1) (hP' : ps1 P j (.ref x) = P') (h : Runs C M k n q P' S G Q) : Runs C M k n pc P (.ref x :: S) G Q := by
  have hq := d.2
  subst hq hP'
  refine Runs.pure d (fun p e s m args below meth c T locs L hw hx hown hZ hd hP hsz _ X => ?_) h
  obtain ⟨L', e1, e2, e3⟩ := hP.store1 (i := j) (v := .ref x) (by omega) rfl
  exact ⟨L', e3, e2.trans hsz, fun t r => XS.astore (g := mkF m pc L (.ref x :: S)) X.here hx rfl hd rfl rfl e1 r⟩
theorem Runs.lstoreN {j : Fin 4} {x : Int64} (d : DAt M pc (.lstore_n j) 1 q) (hi : j.val + 1 < M.2.2.1) (hP' : ps2 P j.val (.long x) = P') (h : Runs C M k n q P' S G Q) : Runs C M k n pc P (.long x :: S) G Q := by
  have hq := d.2
  subst hq hP'
  refine Runs.pure d (fun p e s m args below meth c T locs L hw hx hown hZ hd hP hsz _ X => ?_) h
  obtain ⟨L', e1, e2, e3⟩ := hP.store2 (i := j.val) (v := .long x) (by omega) rfl
  exact ⟨L', e3, e2.trans hsz, fun t r => XS.lstoreN (g := mkF m pc L (.long x :: S)) X.here hx rfl hd rfl e1 r⟩
theorem Runs.lstore {j : Nat} {x : Int64} (d : DAt M pc (.lstore j) 2 q) (hi : j + 1 < M.2.2.1) (hP' : ps2 P j (.long x) = P') (h : Runs C M k n q P' S G Q) : Runs C M k n pc P (.long x :: S) G Q := by
  have hq := d.2
  subst hq hP'
  refine Runs.pure d (fun p e s m args below meth c T locs L hw hx hown hZ hd hP hsz _ X => ?_) h
  obtain ⟨L', e1, e2, e3⟩ := hP.store2 (i := j) (v := .long x) (by omega) rfl
  exact ⟨L', e3, e2.trans hsz, fun t r => XS.lstore (g := mkF m pc L (.long x :: S)) X.here hx rfl hd rfl e1 r⟩
theorem Runs.iinc {j : Nat} {cst : Int} {x v : Int32} (d : DAt M pc (.iinc j cst) 3 q) (hv : Int32.ofInt cst = v) (hl : pget P j = vi x) (hi : j < M.2.2.1) (hP' : ps1 P j (.int (x + v)) = P') (h : Runs C M k n q P' S G Q) : Runs C M k n pc P S G Q := by
  have hq := d.2
  subst hq hP' hv
  refine Runs.pure d (fun p e s m args below meth c T locs L hw hx hown hZ hd hP hsz _ X => ?_) h
  obtain ⟨L', e1, e2, e3⟩ := hP.store1 (i := j) (v := .int (x + Int32.ofInt cst)) (by omega) rfl
  exact ⟨L', e3, e2.trans hsz, fun t r => XS.iinc (g := mkF m pc L S) X.here hx rfl hd (hP.1 _ _ hl) e1 r⟩
/-- less is known of the locals -/
def psub : Pat → Pat → Prop
  | [], _ => True
  | none :: l, _ :: l' => psub l l'
  | some s :: l, y :: l' => y = some s ∧ psub l l'
  | none :: l, [] => psub l []
  | some _ :: _, [] => False
theorem psub_get : ∀ (P P' : Pat), psub P P' → ∀ i s, pget P i = some s → pget P' i = some s
  | [], _, _, i, s, h => by simp [pget] at h
  | none :: l, _ :: l', H, 0, s, h => by simp [pget] at h
  | none :: l, _ :: l', H, i + 1, s, h => psub_get l l' H i s h
  | some x :: l, y :: l', H, 0, s, h => by rw [show y = some x from H.1]; exact h
  | some x :: l, y :: l', H, i + 1, s, h => psub_get l l' H.2 i s h
  | none :: l, [], H, 0, s, h => by simp [pget] at h
  | none :: l, [], H, i + 1, s, h => by have := psub_get l [] H i s h; simp [pget] at this
  | some _ :: _, [], H, _, _, _ => H.elim
theorem Runs.weak (hP : psub P' P) (h : Runs C M k n pc P' S G Q) : Runs C M k n pc P S G Q := by
  intro hw p e s m args below meth c T locs L hx hby hml hret hnm hown hZ hf
  exact h hw p e s m args below meth c T locs L hx hby hml hret hnm hown hZ ⟨fun i s hi => hf.1 i s (psub_get _ _ hP i s hi), hf.2⟩
theorem Runs.swap {top : Nat} {x y : Nat × Nat × Rec} {H : List (Nat × Nat × Rec)} (h : Runs C M k n pc P S (top, y :: x :: H) Q) : Runs C M k n pc P S (top, x :: y :: H) Q := by
  intro hw p e s m args below meth c T locs L hx hby hml hret hnm hown hZ hf hsz X hR hF
  exact h hw p e s m args below meth c T locs L hx hby hml hret hnm hown hZ hf hsz X hR.swap hF
end Rules
/- the steps that touch the heap -/
section Made
variable {p : Program} {l : Launch} {e : Env} {R : Room} {s : State} {m : MethodId} {args : Array Value} {below : List Frame} {meth : Method} {c : Code} {T : State} {locs : List Loc} {cells slots : Nat} {Z : State} {a0 : Array Value}
theorem ext_push (h : Heap) (x : Cell) : Ext h (h.push x) := ⟨by simp, fun a c q => by rw [Array.getElem?_push_lt (Array.getElem?_eq_some_iff.mp q).1]; exact (Array.getElem?_eq_getElem _).symm.trans q⟩
/-- 'new', with the heap's size behind it -/
theorem new1 (X : Stand p l e R s m args below meth c T locs cells slots) (hx : p.tables.exec = Jvm.exec) (hZ : Z.Warmed39 s.vm) {own C : String} {index n : Nat} (hown : s.vm.findClass own = some m.cls) (w : (Jvm.Cond.classLink own index C).before a0 Z = true) (wi : (Jvm.Cond.instantiable C n).before a0 Z = true) (wz : (Jvm.Cond.initialized C).before a0 Z = true)
    {g : JFrame} (hg : g.method = m) (hd : decode c.code g.pc = .ok (.new index, 3)) (hc : cells + 1 ≤ R.cells) (hl : slots + n ≤ R.slots) :
    ∃ T', Stand p l e R s m args below meth c T' locs (cells + 1) (slots + n) ∧ T'.heap.size = T.heap.size + 1 ∧ Ext T.heap T'.heap ∧ Exa Z T'.heap T.heap.size C ∧ (∀ {O nm d : String} {ty : FieldType}, Laid Z a0 C O nm d → parseFieldDescriptor d = some ty → Fld Z T'.heap T.heap.size O nm d (defaultValue ty)) ∧
      ∀ target, Steps p.tables e below (T'.setTop { g with pc := g.pc + 3, stack := .ref T.heap.size :: g.stack }) target → Steps p.tables e below (T.setTop g) target := by
  obtain ⟨vm', cC, kC, h1, h2, h3, h4, X', st⟩ := X.newCold hx hown (mv hZ w) (mv hZ wi) (mv hZ wz) hg hd hc hl
  rw [hZ.alike.findClass] at h1
  obtain ⟨kZ, z1, -⟩ := Vm.findClass_spec h1
  obtain ⟨k', z2, z3⟩ := hZ.alike.2.2 _ _ z1
  have ek : kC.instanceTypes = kZ.instanceTypes := by rw [Option.some.inj (h2.symm.trans z2), z3]
  obtain ⟨cell, hcell⟩ : ∃ cell : Cell, cell = { cls := cC, slots := kC.instanceTypes.map defaultValue, vm := .none } := ⟨_, rfl⟩
  rw [← hcell] at X' st
  have hp : ((T.setVm vm').pushCell cell).heap = T.heap.push cell := rfl
  have at' : (T.heap.push cell)[T.heap.size]? = some cell := by simp
  refine ⟨_, X', by rw [hp]; simp, by rw [hp]; exact ext_push _ _, ?_, fun {O nm d ty} L ht => ?_, st⟩
  · rw [hp]; exact ⟨cell, kZ, at', by rw [hcell]; exact h1, by rw [hcell]; exact z1, by rw [hcell]; rfl, fun _ => by rw [hcell]; simp [ek]⟩
  · rw [hp]
    obtain ⟨c1, k1, cf, kf, i, f, a1, a2, a3, a4, a5, a6, -⟩ := L.spec
    cases h1.symm.trans a1
    cases z1.symm.trans a2
    refine ⟨cell, cf, kf, i, f, at', a3, a4, by rw [hcell]; simp, by rw [hcell]; rfl, by rw [hcell]; exact a5, ?_⟩
    rw [hcell]; simp [ek, a6, (State.fieldFound?_type a3 ht).2]
theorem newArr1 (X : Stand p l e R s m args below meth c T locs cells slots) (hx : p.tables.exec = Jvm.exec) (hZ : Z.Warmed39 s.vm) {aty : ArrayType} (w : (Jvm.Cond.arrayClass (newarray.typeOf aty)).before a0 Z = true) {g : JFrame} (hg : g.method = m) (hd : decode c.code g.pc = .ok (.newarray aty, 2)) {n : Int32} {rest : List Value} (hs : g.stack = .int n :: rest)
    (hn : ¬ n < 0) (hb : n.toNatClampNeg * 8 ≤ 536870912) (hc : cells + 1 ≤ R.cells) (hl : slots + n.toNatClampNeg ≤ R.slots) :
    ∃ T' cA, Stand p l e R s m args below meth c T' locs (cells + 1) (slots + n.toNatClampNeg) ∧ T'.heap.size = T.heap.size + 1 ∧ Ext T.heap T'.heap ∧ Arr Z T'.heap T.heap.size (newA cA (newarray.typeOf aty) n) (newarray.typeOf aty) ∧
      ∀ target, Steps p.tables e below (T'.setTop { g with pc := g.pc + 2, stack := .ref T.heap.size :: rest }) target → Steps p.tables e below (T.setTop g) target := by
  have hcb : componentBytes (newarray.typeOf aty) ≤ 8 := by cases aty <;> decide
  obtain ⟨cA, kA, comp, h1, h2, h3, X', st⟩ := X.newarrayPrim hx (mvA hZ w) hg hd hs hn (Nat.le_trans (Nat.mul_le_mul_left _ hcb) hb) hc hl
  rw [hZ.alike.findClass] at h1
  obtain ⟨kZ, z1, -⟩ := Vm.findClass_spec h1
  obtain ⟨k', z2, z3⟩ := hZ.alike.2.2 _ _ z1
  have ek : kA.kind = kZ.kind := by rw [Option.some.inj (h2.symm.trans z2), z3]
  have hp : (T.pushCell (newA cA (newarray.typeOf aty) n)).heap = T.heap.push (newA cA (newarray.typeOf aty) n) := rfl
  refine ⟨T.pushCell (newA cA (newarray.typeOf aty) n), cA, X', by rw [hp]; simp, by rw [hp]; exact ext_push _ _, ?_, st⟩
  rw [hp]
  exact ⟨by simp, ⟨by simp [newA], kZ, z1, comp, by rw [← ek]; exact h3⟩, by simp [newA]⟩
end Made
section Heap
variable {C : Ctx} {M : Bdy} {k n pc q : Nat} {P P' : Pat} {S S' : List Value} {G : AH} {Q : Option Value → AH → Prop} {top : Nat} {a : Nat} {qq j idx : Nat} {ob : Rec} {H : List (Nat × Nat × Rec)} {nm ds : String}
theorem Runs.getI (d : DAt M pc (.getfield idx) 3 q) (w : Jvm.Cond.fieldLink M.1.cls idx K.1 nm ds ∈ tables_1) (hk : K.2.1[j]? = some (nm, ds)) (h : Runs C M k n q P (.int (gI ob j) :: S) (top, (a, qq, ob) :: H) Q) : Runs C M k n pc P (.ref a :: S) (top, (a, qq, ob) :: H) Q := by
  intro hw p e s m args below meth c T locs L hx hby hml hret hnm hown hZ hf hsz X hR hF
  have hq := d.2
  subst hq
  obtain ⟨T1, X1, e1, st1⟩ := getF X hx hZ hown (host := "") (Or.inl (hw _ w)) Via.refl rfl (hR.objs.2.2.2.1 j _ hk) (g := mkF m pc L (.ref a :: S)) rfl rfl (hb hby d.1)
  obtain ⟨T', locs', k', n', r, G', g1, g2, g3, g4, g5, g6, g7, g8⟩ := h hw p e s m args below meth c T1 locs L hx hby hml hret hnm hown hZ hf hsz X1 (by rw [e1]; exact hR) hF
  exact ⟨T', locs', k', n', r, G', g1, g2, g3, g4, g5, g6, g7, fun fs hr => st1 _ (g8 fs hr)⟩
theorem Runs.getA {ty : FieldType} {len : Int32} (d : DAt M pc (.getfield idx) 3 q) (hk : K.2.2[j]? = some (nm, ty, len)) (w : Jvm.Cond.fieldLink M.1.cls idx K.1 nm (aD ty) ∈ tables_1) (hq : j < qq) (h : Runs C M k n q P (.ref (a + 1 + j) :: S) (top, (a, qq, ob) :: H) Q) : Runs C M k n pc P (.ref a :: S) (top, (a, qq, ob) :: H) Q := by
  intro hw p e s m args below meth c T locs L hx hby hml hret hnm hown hZ hf hsz X hR hF
  have hqq := d.2
  subst hqq
  obtain ⟨T1, X1, e1, st1⟩ := getF X hx hZ hown (host := "") (Or.inl (hw _ w)) Via.refl rfl (hR.objs.2.2.2.2.1 j _ hk hq).1 (g := mkF m pc L (.ref a :: S)) rfl rfl (hb hby d.1)
  obtain ⟨T', locs', k', n', r, G', g1, g2, g3, g4, g5, g6, g7, g8⟩ := h hw p e s m args below meth c T1 locs L hx hby hml hret hnm hown hZ hf hsz X1 (by rw [e1]; exact hR) hF
  exact ⟨T', locs', k', n', r, G', g1, g2, g3, g4, g5, g6, g7, fun fs hr => st1 _ (g8 fs hr)⟩
theorem lw_of {Z : State} {a0 : Array Value} {meth : Method} (hw : ∀ d ∈ tables_1, d.before a0 Z = true) {C O n d own : String} (h : Jvm.Cond.lays C O n d ∈ tables_1 ∨ Jvm.Cond.laysFinal C O n d ∈ tables_1) (hc : Jvm.Cond.lays C O n d ∈ tables_1 ∨ (own = O ∧ meth.name = "<init>")) : (Jvm.Cond.lays C O n d).before a0 Z = true ∨ ((Jvm.Cond.laysFinal C O n d).before a0 Z = true ∧ own = O ∧ meth.name = "<init>") := by
  rcases hc with hc | hc
  · exact Or.inl (hw _ hc)
  · exact h.imp (hw _) (fun u => ⟨hw _ u, hc⟩)
/-- a field that may be written here: not final, or in a constructor of its class -/
def Mine (M : Bdy) (nm ds : String) : Prop := Jvm.Cond.lays K.1 K.1 nm ds ∈ tables_1 ∨ (M.1.cls = K.1 ∧ M.1.name = "<init>")
theorem Runs.putI {x : Int32} (d : DAt M pc (.putfield idx) 3 q) (w : Jvm.Cond.fieldLink M.1.cls idx K.1 nm "I" ∈ tables_1) (hk : K.2.1[j]? = some (nm, "I")) (hm : Mine M nm "I") (h : Runs C M k n q P S (top, (a, qq, sI ob j x) :: H) Q) : Runs C M k n pc P (.int x :: .ref a :: S) (top, (a, qq, ob) :: H) Q := by
  intro hw p e s m args below meth c T locs L hx hby hml hret hnm hown hZ hf hsz X hR hF
  have hqq := d.2
  subst hqq
  obtain ⟨T1, h1, X1, e1, W1, st1⟩ := putF X hx hZ hown (host := "") (Or.inl (hw _ w)) Via.refl rfl (hR.objs.2.2.2.1 j _ hk) hR.objs.2.2.1 (lw_of hw ((All.mem kS (List.mem_of_getElem? hk)).1) (hm.imp id (fun u => ⟨u.1, hnm.trans u.2⟩))) (hw _ kI) (ty := .int) (by decide) rfl rfl (g := mkF m pc L (.int x :: .ref a :: S)) rfl rfl (hb hby d.1)
  obtain ⟨T', locs', k', n', r, G', g1, g2, g3, g4, g5, g6, g7, g8⟩ := h hw p e s m args below meth c T1 _ L hx hby hml hret hnm hown hZ hf hsz X1 (by rw [e1]; exact hR.putI hw hk W1) (Fr.snoc X1 hF hR.objs.1)
  exact ⟨T', locs', k', n', r, G', g1, g2, g3, g4, g5, g6, g7, fun fs hr => st1 _ (g8 fs hr)⟩
theorem Runs.putZ {x y : Int32} (d : DAt M pc (.putfield idx) 3 q) (w : Jvm.Cond.fieldLink M.1.cls idx K.1 nm "Z" ∈ tables_1) (hk : K.2.1[j]? = some (nm, "Z")) (hm : Mine M nm "Z") (hy : nar .boolean x = y) (h : Runs C M k n q P S (top, (a, qq, sI ob j y) :: H) Q) : Runs C M k n pc P (.int x :: .ref a :: S) (top, (a, qq, ob) :: H) Q := by
  subst hy
  intro hw p e s m args below meth c T locs L hx hby hml hret hnm hown hZ hf hsz X hR hF
  have hqq := d.2
  subst hqq
  obtain ⟨T1, h1, X1, e1, W1, st1⟩ := putFN X hx hZ hown (hw _ w) Via.refl rfl (hR.objs.2.2.2.1 j _ hk) hR.objs.2.2.1 (lw_of hw ((All.mem kS (List.mem_of_getElem? hk)).1) (hm.imp id (fun u => ⟨u.1, hnm.trans u.2⟩))) (hw _ kI) (ty := .boolean) (v' := .int (nar .boolean x)) (by decide) rfl (fits_nar_bool _) (g := mkF m pc L (.int x :: .ref a :: S)) rfl rfl (hb hby d.1)
  obtain ⟨T', locs', k', n', r, G', g1, g2, g3, g4, g5, g6, g7, g8⟩ := h hw p e s m args below meth c T1 _ L hx hby hml hret hnm hown hZ hf hsz X1 (by rw [e1]; exact hR.putI hw hk W1) (Fr.snoc X1 hF hR.objs.1)
  exact ⟨T', locs', k', n', r, G', g1, g2, g3, g4, g5, g6, g7, fun fs hr => st1 _ (g8 fs hr)⟩
theorem Runs.ialoadA {i len : Int32} (d : DAt M pc .iaload 1 q) (hk : K.2.2[j]? = some (nm, .int, len)) (hq : j < qq) (hi : ¬ i < 0 ∧ i < len) (h : Runs C M k n q P (.int (gA ob j i) :: S) (top, (a, qq, ob) :: H) Q) : Runs C M k n pc P (.int i :: .ref (a + 1 + j) :: S) (top, (a, qq, ob) :: H) Q := by
  have hqq := d.2
  subst hqq
  refine Runs.pure d (fun p e s m args below meth c T locs L hw hx hown hZ hd hP hsz hR X => ⟨L, hP, hsz, fun t r => ?_⟩) h
  obtain ⟨cl, A, Sz, V⟩ := (hR.objs.2.2.2.2.1 j _ hk hq).2
  exact X.iaload hx (j := i) (v := .int (gA ob j i)) A.1 (State.isArrayOf_alike hZ.alike A.2.1) A.2.2 (inb_of Sz hi) (V i hi.1 hi.2) (g := mkF m pc L (.int i :: .ref (a + 1 + j) :: S)) rfl rfl hd _ r
theorem Runs.baloadA {i len : Int32} (d : DAt M pc .baload 1 q) (hk : K.2.2[j]? = some (nm, .boolean, len)) (hq : j < qq) (hi : ¬ i < 0 ∧ i < len) (h : Runs C M k n q P (.int (gA ob j i) :: S) (top, (a, qq, ob) :: H) Q) : Runs C M k n pc P (.int i :: .ref (a + 1 + j) :: S) (top, (a, qq, ob) :: H) Q := by
  have hqq := d.2
  subst hqq
  refine Runs.pure d (fun p e s m args below meth c T locs L hw hx hown hZ hd hP hsz hR X => ⟨L, hP, hsz, fun t r => ?_⟩) h
  obtain ⟨cl, A, Sz, V⟩ := (hR.objs.2.2.2.2.1 j _ hk hq).2
  exact X.baloadBooleans hx (j := i) (v := .int (gA ob j i)) A.1 (State.isArrayOf_alike hZ.alike A.2.1) A.2.2 (inb_of Sz hi) (V i hi.1 hi.2) (g := mkF m pc L (.int i :: .ref (a + 1 + j) :: S)) rfl rfl hd _ r
theorem Runs.laloadA {i len : Int32} (d : DAt M pc .laload 1 q) (hk : K.2.2[j]? = some (nm, .long, len)) (hq : j < qq) (hi : ¬ i < 0 ∧ i < len) (h : Runs C M k n q P (.long (gJ ob j i) :: S) (top, (a, qq, ob) :: H) Q) : Runs C M k n pc P (.int i :: .ref (a + 1 + j) :: S) (top, (a, qq, ob) :: H) Q := by
  have hqq := d.2
  subst hqq
  refine Runs.pure d (fun p e s m args below meth c T locs L hw hx hown hZ hd hP hsz hR X => ⟨L, hP, hsz, fun t r => ?_⟩) h
  obtain ⟨cl, A, Sz, V⟩ := (hR.objs.2.2.2.2.1 j _ hk hq).2
  exact X.laload hx (j := i) (v := .long (gJ ob j i)) A.1 (State.isArrayOf_alike hZ.alike A.2.1) A.2.2 (inb_of Sz hi) (V i hi.1 hi.2) (g := mkF m pc L (.int i :: .ref (a + 1 + j) :: S)) rfl rfl hd _ r
theorem Runs.iastoreA {i x len : Int32} (d : DAt M pc .iastore 1 q) (hk : K.2.2[j]? = some (nm, .int, len)) (hq : j < qq) (hi : ¬ i < 0 ∧ i < len) (h : Runs C M k n q P S (top, (a, qq, sA ob j i x) :: H) Q) : Runs C M k n pc P (.int x :: .int i :: .ref (a + 1 + j) :: S) (top, (a, qq, ob) :: H) Q := by
  intro hw p e s m args below meth c T locs L hx hby hml hret hnm hown hZ hf hsz X hR hF
  have hqq := d.2
  subst hqq
  obtain ⟨cl, A, Sz, V⟩ := (hR.objs.2.2.2.2.1 j _ hk hq).2
  obtain ⟨T1, h1, X1, e1, W1, st1⟩ := stI X hx hZ rfl A (j := i) (x := x) (inb_of Sz hi) (g := mkF m pc L (.int x :: .int i :: .ref (a + 1 + j) :: S)) rfl rfl (hb hby d.1)
  obtain ⟨T', locs', k', n', r, G', g1, g2, g3, g4, g5, g6, g7, g8⟩ := h hw p e s m args below meth c T1 _ L hx hby hml hret hnm hown hZ hf hsz X1 (by rw [e1]; exact hR.putA hk hq (by simp) hi W1) (Fr.snoc X1 hF (by have := hR.objs.1; omega))
  exact ⟨T', locs', k', n', r, G', g1, g2, g3, g4, g5, g6, g7, fun fs hr => st1 _ (g8 fs hr)⟩
theorem Runs.bastoreA {i x len : Int32} (d : DAt M pc .bastore 1 q) (hk : K.2.2[j]? = some (nm, .boolean, len)) (hq : j < qq) (hi : ¬ i < 0 ∧ i < len) {y : Int32} (hy : nar .boolean x = y) (h : Runs C M k n q P S (top, (a, qq, sA ob j i y) :: H) Q) : Runs C M k n pc P (.int x :: .int i :: .ref (a + 1 + j) :: S) (top, (a, qq, ob) :: H) Q := by
  subst hy
  intro hw p e s m args below meth c T locs L hx hby hml hret hnm hown hZ hf hsz X hR hF
  have hqq := d.2
  subst hqq
  obtain ⟨cl, A, Sz, V⟩ := (hR.objs.2.2.2.2.1 j _ hk hq).2
  obtain ⟨T1, h1, X1, e1, W1, st1⟩ := stZ X hx hZ rfl A (j := i) (x := x) (inb_of Sz hi) (g := mkF m pc L (.int x :: .int i :: .ref (a + 1 + j) :: S)) rfl rfl (hb hby d.1)
  obtain ⟨T', locs', k', n', r, G', g1, g2, g3, g4, g5, g6, g7, g8⟩ := h hw p e s m args below meth c T1 _ L hx hby hml hret hnm hown hZ hf hsz X1 (by rw [e1]; exact hR.putA hk hq (by simp) hi W1) (Fr.snoc X1 hF (by have := hR.objs.1; omega))
  exact ⟨T', locs', k', n', r, G', g1, g2, g3, g4, g5, g6, g7, fun fs hr => st1 _ (g8 fs hr)⟩
theorem Runs.lastoreA {i len : Int32} {x : Int64} (d : DAt M pc .lastore 1 q) (hk : K.2.2[j]? = some (nm, .long, len)) (hq : j < qq) (hi : ¬ i < 0 ∧ i < len) (h : Runs C M k n q P S (top, (a, qq, sJ ob j i x) :: H) Q) : Runs C M k n pc P (.long x :: .int i :: .ref (a + 1 + j) :: S) (top, (a, qq, ob) :: H) Q := by
  intro hw p e s m args below meth c T locs L hx hby hml hret hnm hown hZ hf hsz X hR hF
  have hqq := d.2
  subst hqq
  obtain ⟨cl, A, Sz, V⟩ := (hR.objs.2.2.2.2.1 j _ hk hq).2
  obtain ⟨T1, h1, X1, e1, W1, st1⟩ := stJ X hx hZ rfl A (j := i) (x := x) (inb_of Sz hi) (g := mkF m pc L (.long x :: .int i :: .ref (a + 1 + j) :: S)) rfl rfl (hb hby d.1)
  obtain ⟨T', locs', k', n', r, G', g1, g2, g3, g4, g5, g6, g7, g8⟩ := h hw p e s m args below meth c T1 _ L hx hby hml hret hnm hown hZ hf hsz X1 (by rw [e1]; exact hR.putJ hk hq rfl hi W1) (Fr.snoc X1 hF (by have := hR.objs.1; omega))
  exact ⟨T', locs', k', n', r, G', g1, g2, g3, g4, g5, g6, g7, fun fs hr => st1 _ (g8 fs hr)⟩
/-- the script: an array that stood before the law began -/
def ScrF (C : Ctx) (sa : Nat) (z : Int32) (f : Int32 → Int32) : Prop := ∃ cl : Cell, Scr C.2.1 C.2.1.heap sa cl z ∧ f = atv cl
theorem Runs.lenS {sa : Nat} {z : Int32} {f : Int32 → Int32} (hs : ScrF C sa z f) (d : DAt M pc .arraylength 1 q) (h : Runs C M k n q P (.int z :: S) G Q) : Runs C M k n pc P (.ref sa :: S) G Q := by
  have hqq := d.2
  subst hqq
  refine Runs.pure d (fun p e s m args below meth c T locs L hw hx hown hZ hd hP hsz hR X => ⟨L, hP, hsz, fun t r => ?_⟩) h
  obtain ⟨cl, F, -⟩ := hs
  obtain ⟨A, Sz, N, V⟩ := F.ext hR.2.1.2
  exact X.arraylength hx A.1 (State.isArrayOf_alike hZ.alike A.2.1) (g := mkF m pc L (.ref sa :: S)) rfl rfl hd _ (by rw [len_of Sz N]; exact r)
theorem Runs.ialoadS {sa : Nat} {z i : Int32} {f : Int32 → Int32} (hs : ScrF C sa z f) (d : DAt M pc .iaload 1 q) (hi : ¬ i < 0 ∧ i < z) (h : Runs C M k n q P (.int (f i) :: S) G Q) : Runs C M k n pc P (.int i :: .ref sa :: S) G Q := by
  have hqq := d.2
  subst hqq
  refine Runs.pure d (fun p e s m args below meth c T locs L hw hx hown hZ hd hP hsz hR X => ⟨L, hP, hsz, fun t r => ?_⟩) h
  obtain ⟨cl, F, rfl⟩ := hs
  obtain ⟨A, Sz, N, V⟩ := F.ext hR.2.1.2
  exact X.iaload hx (j := i) (v := .int (atv cl i)) A.1 (State.isArrayOf_alike hZ.alike A.2.1) A.2.2 (inb_of Sz hi) (V i (inb_of Sz hi)) (g := mkF m pc L (.int i :: .ref sa :: S)) rfl rfl hd _ r
/- leaving -/
theorem Runs.retI {v : Int32} (d : DAt M pc .ireturn 1 q) (hret : M.2.2.2.1 = some .int) (hk : k ≤ M.2.2.2.2.cells ∧ n ≤ M.2.2.2.2.slots) (hQ : Q (some (.int v)) G) : Runs C M k n pc P (.int v :: S) G Q := by
  intro hw p e s m args below meth c T locs L hx hby hml hr0 hnm hown hZ hf hsz X hR hF
  exact ⟨T, locs, k, n, _, G, X, hk.1, hk.2, hR, hF, hQ, (fun u => by rw [hret] at u; cases u), fun fs hr => Jvm.RoadKit.retI X hx (hr0.trans hret) (hb hby d.1) hr⟩
theorem Runs.retZ {v : Int32} (d : DAt M pc .ireturn 1 q) (hret : M.2.2.2.1 = some .boolean) (hk : k ≤ M.2.2.2.2.cells ∧ n ≤ M.2.2.2.2.slots) {y : Int32} (hy : nar .boolean v = y) (hQ : Q (some (.int y)) G) : Runs C M k n pc P (.int v :: S) G Q := by
  subst hy
  intro hw p e s m args below meth c T locs L hx hby hml hr0 hnm hown hZ hf hsz X hR hF
  exact ⟨T, locs, k, n, _, G, X, hk.1, hk.2, hR, hF, hQ, (fun u => by rw [hret] at u; cases u), fun fs hr => retN X hx (t := .boolean) (hr0.trans hret) (by simp) (hb hby d.1) hr⟩
theorem Runs.retJ {v : Int64} (d : DAt M pc .lreturn 1 q) (hret : M.2.2.2.1 = some .long) (hk : k ≤ M.2.2.2.2.cells ∧ n ≤ M.2.2.2.2.slots) (hQ : Q (some (.long v)) G) : Runs C M k n pc P (.long v :: []) G Q := by
  intro hw p e s m args below meth c T locs L hx hby hml hr0 hnm hown hZ hf hsz X hR hF
  exact ⟨T, locs, k, n, _, G, X, hk.1, hk.2, hR, hF, hQ, (fun u => by rw [hret] at u; cases u), fun fs hr => X.lreturnOut hx (hr0.trans hret) (hb hby d.1) hr⟩
theorem Runs.retV (d : DAt M pc .return_ 1 q) (hret : M.2.2.2.1 = none) (hk : k ≤ M.2.2.2.2.cells ∧ n ≤ M.2.2.2.2.slots) (hQ : Q none G) : Runs C M k n pc P [] G Q := by
  intro hw p e s m args below meth c T locs L hx hby hml hr0 hnm hown hZ hf hsz X hR hF
  exact ⟨T, locs, k, n, _, G, X, hk.1, hk.2, hR, hF, hQ, (fun _ => rfl), fun fs hr => X.returnOut hx (hr0.trans hret) (hb hby d.1) hr⟩
/- a new object, and the arrays that its constructor makes -/
theorem Runs.newK (d : DAt M pc (.new idx) 3 q) (w : Jvm.Cond.classLink M.1.cls idx K.1 ∈ tables_1) (hc : k + 1 ≤ M.2.2.2.2.cells ∧ n + kN ≤ M.2.2.2.2.slots) {k' n' : Nat} (hk' : k + 1 = k') (hn' : n + kN = n') {H : List (Nat × Nat × Rec)} (hd : ∀ x ∈ H, x.1 + x.2.1 < top) (h : Runs C M k' n' q P (.ref top :: S) (top + 1, (top, 0, zrec) :: H) Q) : Runs C M k n pc P S (top, H) Q := by
  subst hk' hn'
  intro hw p e s m args below meth c T locs L hx hby hml hr0 hnm hown hZ hf hsz X hR hF
  have hqq := d.2
  subst hqq
  obtain ⟨T2, X2, s2, E2, A2, D2, st2⟩ := new1 X hx hZ hown (hw _ w) (hw _ kI) (hw _ kZ) (g := mkF m pc L S) rfl (hb hby d.1) hc.1 hc.2
  have hs : T.heap.size = top := hR.1
  rw [hs] at A2 D2 st2 s2
  have hR2 : Rep C.2.1 C.2.2.1 T2.heap (top + 1, (top, 0, zrec) :: H) := by
    refine ⟨s2, hR.2.1.ext E2, fun x hx' => ?_, ?_⟩
    · rcases List.mem_cons.mp hx' with rfl | hx'
      · refine ⟨?_, by simp, A2, fun k nd hk => ?_, fun k t hk hq => by simp at hq, fun k t hk hq => ?_⟩
        · have := hR.2.1.2.1; rw [hR.2.1.1] at this; simp only; omega
        · rcases (All.mem kS (List.mem_of_getElem? hk)).2 with e | e
          · have := D2 (laidS hw hk) (ty := .int) (by rw [e]; decide); exact this
          · have := D2 (laidS hw hk) (ty := .boolean) (by rw [e]; decide); exact this
        · have := D2 (laidA hw hk) (pfA hk); exact this
      · obtain ⟨p1, p2, p3⟩ := hR.2.2.1 x hx'
        exact ⟨p1, by simp only at p2 ⊢; omega, p3.ext E2⟩
    · exact List.pairwise_cons.mpr ⟨fun y hy => Or.inr (hd y hy), hR.2.2.2⟩
  obtain ⟨T', locs', k', n', r, G', g1, g2, g3, g4, g5, g6, g7, g8⟩ := h hw p e s m args below meth c T2 _ L hx hby hml hr0 hnm hown hZ hf hsz X2 hR2 hF
  exact ⟨T', locs', k', n', r, G', g1, g2, g3, g4, g5, g6, g7, fun fs hr => st2 _ (g8 fs hr)⟩
/-- newarray and the putfield behind it: the next array of an object that is being made -/
theorem Runs.newArr {aty : ArrayType} {ty : FieldType} {len : Int32} {q1 : Nat} (d : DAt M pc (.newarray aty) 2 q1) (d' : DAt M q1 (.putfield idx) 3 q) (hk : K.2.2[j]? = some (nm, ty, len)) (w : Jvm.Cond.fieldLink M.1.cls idx K.1 nm (aD ty) ∈ tables_1) (ht : newarray.typeOf aty = ty) (wa : Jvm.Cond.arrayClass ty ∈ tables_1) (hm : Mine M nm (aD ty))
    (htop : top = a + 1 + j) (hlen : ¬ len < 0 ∧ len.toNatClampNeg * 8 ≤ 536870912) (hc : k + 1 ≤ M.2.2.2.2.cells ∧ n + len.toNatClampNeg ≤ M.2.2.2.2.slots) (hz : (∀ i, ob.2.1 j i = 0) ∧ (∀ i, ob.2.2 j i = 0)) {j' top' k' n' : Nat} (hj' : j + 1 = j') (ht' : top + 1 = top') (hk' : k + 1 = k') (hn' : n + len.toNatClampNeg = n')
    (h : Runs C M k' n' q P S (top', (a, j', ob) :: H) Q) : Runs C M k n pc P (.int len :: .ref a :: S) (top, (a, j, ob) :: H) Q := by
  subst hj' ht' hk' hn'
  intro hw p e s m args below meth c T locs L hx hby hml hr0 hnm hown hZ hf hsz X hR hF
  have hqq := d.2
  have hqq' := d'.2
  subst hqq hqq' ht
  obtain ⟨T1, cA, X1, s1, E1, A1, st1⟩ := newArr1 X hx hZ (hw _ wa) (g := mkF m pc L (.int len :: .ref a :: S)) rfl (hb hby d.1) rfl hlen.1 hlen.2 hc.1 hc.2
  have hs : T.heap.size = top := hR.1
  rw [hs] at A1 st1 s1
  have O1 := hR.objs.2.2.ext E1
  obtain ⟨T2, h2, X2, e2, W2, st2⟩ := putF X1 hx hZ hown (host := "") (Or.inl (hw _ w)) Via.refl rfl (O1.2.2.2 j _ hk (Nat.le_refl _)) O1.1 (lw_of hw ((All.mem kA (List.mem_of_getElem? hk)).1) (hm.imp id (fun u => ⟨u.1, hnm.trans u.2⟩))) (hw _ kI) (ty := .array (newarray.typeOf aty)) (pfA hk) rfl rfl (g := mkF m (pc + 2) L (.ref top :: .ref a :: S)) rfl rfl (hb hby d'.1)
  have hts : (newarray.typeOf aty = .int ∨ newarray.typeOf aty = .boolean ∨ newarray.typeOf aty = .long) := (All.mem kA (List.mem_of_getElem? hk)).2.1
  have hA := arr_new A1 hts hz
  have hR2 : Rep C.2.1 C.2.2.1 T2.heap (top + 1, (a, j + 1, ob) :: H) := by rw [e2]; exact hR.addA hw E1 s1 htop hk hA W2
  obtain ⟨T', locs', k', n', r, G', g1, g2, g3, g4, g5, g6, g7, g8⟩ := h hw p e s m args below meth c T2 _ L hx hby hml hr0 hnm hown hZ hf hsz X2 hR2 (Fr.snoc X2 hF hR.objs.1)
  exact ⟨T', locs', k', n', r, G', g1, g2, g3, g4, g5, g6, g7, fun fs hr => st1 _ (st2 _ (g8 fs hr))⟩
theorem Runs.initO {W : Nat} (d : DAt M pc (.invokespecial idx) 3 q) (w1 : Jvm.Cond.methodLink M.1.cls idx Lib.objectInit ∈ tables_1) (w2 : Jvm.Cond.instanceMethod Lib.objectInit ∈ tables_1) (w3 : Jvm.Cond.code Lib.objectInit ⟨#[0xb1]⟩ 1 none ∈ tables_1) (hW : (S.map fun v => v.category).sum = W) (hc : 1 ≤ M.2.2.2.2.frames ∧ W + 12 ≤ M.2.2.2.2.locals) (h : Runs C M k n q P S G Q) : Runs C M k n pc P (.ref a :: S) G Q := by
  intro hw p e s m args below meth c T locs L hx hby hml hr0 hnm hown hZ hf hsz X hR hF
  have hqq := d.2
  subst hqq
  obtain ⟨T1, X1, e1, st1⟩ := Jvm.RoadKit.initO X hx hZ hown (hw _ w1) (hw _ w2) (hw _ w3) rfl (g := mkF m pc L (.ref a :: S)) rfl (by rw [hml]; exact hsz) rfl (hb hby d.1) hc.1 (W := W) (by show 2 * 0 + _ ≤ _; omega) hc.2
  obtain ⟨T', locs', k', n', r, G', g1, g2, g3, g4, g5, g6, g7, g8⟩ := h hw p e s m args below meth c T1 _ L hx hby hml hr0 hnm hown hZ hf hsz X1 (by rw [e1]; exact hR) hF
  exact ⟨T', locs', k', n', r, G', g1, g2, g3, g4, g5, g6, g7, fun fs hr => st1 _ (g8 fs hr)⟩
end Heap
/- a body's contract, and the calls that are paid by one -/
def Pays (C : Ctx) (N : Bdy) (as : List Value) (G : AH) (Q : Option Value → AH → Prop) : Prop :=
  Ok C → ∀ h0 : Heap, Rep C.2.1 C.2.2.1 h0 G → ∀ ws : List Jvm.Cond, MetFree C.1 N.1 (head1 (Jvm.Cond.code N.1 N.2.1 N.2.2.1 N.2.2.2.1 :: ws) N.2.2.2.2) (fun a U => a = as.toArray ∧ C.2.1.Warmed39 U.vm ∧ U.heap = h0) (fun _ _ _ _ _ => True)
    (fun _ U o U' => ∃ v L, o = .returned v ∧ (Fr C.2.2.1 L ∧ ∃ G', Rep C.2.1 C.2.2.1 U'.heap G' ∧ Q v G') ∧ FrameEnd U o U' L N.2.2.2.2.cells N.2.2.2.2.slots)
def lay : List Value → List Slot
  | [] => []
  | v :: l => if v.category = 2 then .val v :: .second :: lay l else .val v :: lay l
theorem lay_foldl (l : List Value) : ∀ acc : Array Slot, (l.foldl (fun acc v => if v.category = 2 then (acc.push (.val v)).push .second else acc.push (.val v)) acc).toList = acc.toList ++ lay l := by
  induction l with
  | nil => intro acc; simp [lay]
  | cons v l ih =>
    intro acc
    rw [List.foldl_cons, ih]
    by_cases h : v.category = 2 <;> simp [lay, h]
theorem args_lay (as : List Value) (ml : Nat) : argsToLocals as.toArray ml = (lay as ++ List.replicate (ml - (lay as).length) Slot.unset).toArray := by
  have h := lay_foldl as #[]
  apply Array.ext'
  simp only [argsToLocals, Array.toList_append, List.toList_toArray] at *
  rw [show (as.toArray.foldl (init := #[]) fun acc v => if v.category = 2 then (acc.push (Slot.val v)).push .second else acc.push (.val v)).toList = lay as by simpa using h]
  congr 1
  rw [← Array.length_toList, show (as.toArray.foldl (init := #[]) fun acc v => if v.category = 2 then (acc.push (Slot.val v)).push .second else acc.push (.val v)).toList = lay as by simpa using h]
  simp
def WFL (l : List Slot) : Prop := (∀ i : Nat, l[i]? = some .second → ∃ (j : Nat) (v : Value), i = j + 1 ∧ l[j]? = some (.val v) ∧ v.category = 2) ∧ (∀ (i : Nat) (v : Value), l[i]? = some (.val v) → v.category = 2 → l[i + 1]? = some .second)
theorem WFL.unset (n : Nat) : WFL (List.replicate n Slot.unset) := by
  refine ⟨fun i h => ?_, fun i v h => ?_⟩ <;> (rw [List.getElem?_replicate] at h; split at h <;> cases h)
theorem WFL.one {l : List Slot} {v : Value} (h : WFL l) (hv : v.category ≠ 2) : WFL (.val v :: l) := by
  refine ⟨fun i hi => ?_, fun i w hi hw => ?_⟩
  · cases i with
    | zero => simp at hi
    | succ i =>
      obtain ⟨j, w, e1, e2, e3⟩ := h.1 i (by simpa using hi)
      exact ⟨j + 1, w, by omega, by simpa using e2, e3⟩
  · cases i with
    | zero => simp at hi; subst hi; exact absurd hw hv
    | succ i => have := h.2 i w (by simpa using hi) hw; simpa using this
theorem WFL.two {l : List Slot} {v : Value} (h : WFL l) (hv : v.category = 2) : WFL (.val v :: .second :: l) := by
  refine ⟨fun i hi => ?_, fun i w hi hw => ?_⟩
  · match i, hi with
    | 0, hi => simp at hi
    | 1, hi => exact ⟨0, v, rfl, by simp, hv⟩
    | i + 2, hi =>
      obtain ⟨j, w, e1, e2, e3⟩ := h.1 i (by simpa using hi)
      exact ⟨j + 2, w, by omega, by simpa using e2, e3⟩
  · match i, hi with
    | 0, hi => simp
    | 1, hi => simp at hi
    | i + 2, hi => have := h.2 i w (by simpa using hi) hw; simpa using this
theorem WFL.lay (as : List Value) (n : Nat) : WFL (lay as ++ List.replicate n Slot.unset) := by
  induction as with
  | nil => exact WFL.unset n
  | cons v l ih =>
    by_cases h : v.category = 2
    · simpa [Jvm.Pilot.@@N@@.lay, h] using ih.two h
    · simpa [Jvm.Pilot.@@N@@.lay, h] using ih.one h
def pforget : List Bool → Pat → Pat
  | [], _ => []
  | _, [] => []
  | true :: ms, x :: l => x :: pforget ms l
  | false :: ms, _ :: l => none :: pforget ms l
theorem pforget_get : ∀ (ms : List Bool) (P : Pat) (i : Nat) (s : Slot), pget (pforget ms P) i = some s → pget P i = some s
  | [], _, i, s, h => by simp [pforget, pget] at h
  | _ :: _, [], i, s, h => by simp [pforget, pget] at h
  | true :: ms, x :: l, 0, s, h => h
  | true :: ms, x :: l, i + 1, s, h => pforget_get ms l i s h
  | false :: ms, x :: l, 0, s, h => by simp [pforget, pget] at h
  | false :: ms, x :: l, i + 1, s, h => pforget_get ms l i s h
section Calls
variable {C : Ctx} {M N : Bdy} {k n pc q : Nat} {P P' : Pat} {S S' : List Value} {G G1 : AH} {Q : Option Value → AH → Prop} {top : Nat} {a : Nat} {qq j idx W : Nat} {ob : Rec} {H : List (Nat × Nat × Rec)} {as : List Value}
theorem Runs.forget (ms : List Bool) (hP : pforget ms P = P') (h : Runs C M k n pc P' S G Q) : Runs C M k n pc P S G Q := by
  intro hw p e s m args below meth c T locs L hx hby hml hret hnm hown hZ hf
  subst hP
  exact h hw p e s m args below meth c T locs L hx hby hml hret hnm hown hZ ⟨fun i s hi => hf.1 i s (pforget_get _ _ i s hi), hf.2⟩
theorem Pays.of (hpl : plainName N.1.cls = true) (hml : (lay as).length ≤ N.2.2.1) (x : Nat) (hP : (lay as).map some ++ List.replicate x none = P) (h : Runs C N 0 0 0 P [] G Q) : Pays C N as G Q := by
  intro hw h0 hR ws
  refine MetFree.of_bodySF (plainFor_of_name hpl) hisR ?_
  intro p e s m args below meth c s₁ Bd hml0 hp hK
  obtain ⟨rfl, hZ, hh⟩ := hp
  have X0 : Stand p C.1 e N.2.2.2.2 s m as.toArray below meth c s₁ [] 0 0 := Stand.of_body Bd
  have e0 : s₁.heap = h0 := by rw [← hh, Bd.state]; rfl
  obtain ⟨L, hL⟩ : ∃ L : Array Slot, L = (lay as ++ List.replicate (N.2.2.1 - (lay as).length) Slot.unset).toArray := ⟨_, rfl⟩
  have hfit : Fits P L := by
    subst hP hL
    refine ⟨fun i s hi => ?_, ?_⟩
    · rw [pget_eq] at hi
      cases hq : (lay as)[i]? with
      | none =>
        rw [List.getElem?_append_right (by simpa using hq), List.getElem?_replicate] at hi
        split at hi <;> simp at hi
      | some y =>
        have hlt := (List.getElem?_eq_some_iff.mp hq).1
        rw [List.getElem?_append_left (by simpa using hlt), List.getElem?_map, hq] at hi
        have this : y = s := by simpa using hi
        simp only [List.getElem?_toArray]
        rw [List.getElem?_append_left hlt, hq, this]
    · have := WFL.lay as (N.2.2.1 - (lay as).length)
      refine ⟨fun i hi => ?_, fun i v hi hv => ?_⟩
      · rw [List.getElem?_toArray] at hi
        obtain ⟨j, v, e1, e2, e3⟩ := this.1 i hi
        exact ⟨j, v, e1, by rw [List.getElem?_toArray]; exact e2, e3⟩
      · rw [List.getElem?_toArray] at hi ⊢
        exact this.2 i v hi hv
  obtain ⟨T', locs', k', n', r, G', g1, g2, g3, g4, g5, g6, g7, g8⟩ := h hw p e s m as.toArray below meth c s₁ [] L Bd.exec Bd.bytes hml0 Bd.returns (name_of_methodNamed Bd.named Bd.method).1 (findClass_of_methodNamed Bd.named) hZ hfit (by rw [hL]; simp; omega) X0 (by rw [e0]; exact hR) (Fr.nil _)
  obtain ⟨fs, hr, hrun, hended, hW, hsame⟩ := g1.leave (v := r) (fun u => g7 (by rw [← Bd.returns]; exact u))
  refine ⟨_, _, ?_, hrun, hended, _, _, rfl, ⟨g5, G', ?_, g6⟩, ⟨_, rfl⟩, hW, hsame.mono g2 g3⟩
  · have ef : entryFrame m as.toArray N.2.2.1 = mkF m 0 L [] := by
      rw [hL, ← args_lay]; rfl
    rw [ef]; exact g8 fs hr
  · exact g4
abbrev room_al (M N : Bdy) (W k n : Nat) : Prop := N.2.2.2.2.frames + 1 ≤ M.2.2.2.2.frames ∧ W + (N.2.2.1 + 11) + N.2.2.2.2.locals ≤ M.2.2.2.2.locals ∧ k + N.2.2.2.2.cells ≤ M.2.2.2.2.cells ∧ n + N.2.2.2.2.slots ≤ M.2.2.2.2.slots
abbrev room_ok (M N : Bdy) (W : Nat) : Prop := N.2.2.2.2.frames + 1 ≤ M.2.2.2.2.frames ∧ W + (N.2.2.1 + 11) + N.2.2.2.2.locals ≤ M.2.2.2.2.locals ∧ N.2.2.2.2.cells = 0 ∧ N.2.2.2.2.slots = 0
abbrev full_ok (M : Bdy) (k n : Nat) : Prop := k ≤ M.2.2.2.2.cells ∧ n ≤ M.2.2.2.2.slots
theorem room_ok.al (h : room_ok M N W) (f : full_ok M k n) : room_al M N W k n := ⟨h.1, h.2.1, by rw [h.2.2.1]; exact f.1, by rw [h.2.2.2]; exact f.2⟩
abbrev code_w (N : Bdy) : Prop := Jvm.Cond.code N.1 N.2.1 N.2.2.1 N.2.2.2.1 ∈ tables_1 ∧ Jvm.Cond.initialized N.1.cls ∈ tables_1 ∧ (N.1.cls ≠ "java/lang/invoke/MethodHandle" ∧ N.1.cls ≠ "java/lang/invoke/VarHandle")
def arity (N : Bdy) (na : Nat) : Prop := ∃ ps r, parseMethodDescriptor N.1.desc = some ⟨ps, r⟩ ∧ na = ps.length
theorem arity.len {na : Nat} (h : arity N na) (e : as.length = na) : ∀ sig, parseMethodDescriptor N.1.desc = some sig → as.length = sig.parameters.length := by
  obtain ⟨ps, r, h1, h2⟩ := h
  exact lenOf h1 (e.trans h2)
theorem after_call {v : Option Value} {p : Program} {e : Env} {s : State} {m : MethodId} {args : Array Value} {below : List Frame} {meth : Method} {c : Code} {T T0 : State} {locs : List Loc} {L : Array Slot} {QN : Option Value → AH → Prop} {Lc : List Loc}
    (hw : Ok C) (hx : p.tables.exec = Jvm.exec) (hby : c.code = M.2.1) (hml : c.maxLocals = M.2.2.1) (hret : meth.sig.returnType = M.2.2.2.1) (hnm : meth.name = M.1.name) (hown : s.vm.findClass M.1.cls = some m.cls) (hZ : C.2.1.Warmed39 s.vm) (hf : Fits P L) (hsz : L.size = M.2.2.1) (hF : Fr C.2.2.1 locs)
    (X : Stand p C.1 e M.2.2.2.2 s m args below meth c T (locs ++ Lc) (k + N.2.2.2.2.cells) (n + N.2.2.2.2.slots)) (hQ : Fr C.2.2.1 Lc ∧ ∃ G', Rep C.2.1 C.2.2.1 T.heap G' ∧ QN v G')
    (h : ∀ v G', QN v G' → Runs C M (k + N.2.2.2.2.cells) (n + N.2.2.2.2.slots) (pc + 3) P (v.toList ++ S') G' Q)
    (st : ∀ t, Steps p.tables e below (T.setTop (mkF m (pc + 3) L (v.toList ++ S'))) t → Steps p.tables e below (T0.setTop (mkF m pc L S)) t) :
    ∃ (T' : State) (locs' : List Loc) (k' n' : Nat) (r : Option Value) (G' : AH), Stand p C.1 e M.2.2.2.2 s m args below meth c T' locs' k' n' ∧ k' ≤ M.2.2.2.2.cells ∧ n' ≤ M.2.2.2.2.slots ∧ Rep C.2.1 C.2.2.1 T'.heap G' ∧ Fr C.2.2.1 locs' ∧ Q r G' ∧
      (M.2.2.2.1 = none → r = none) ∧
      ∀ fs : List Frame, (∀ (f : JFrame) (acts : List Action), f.method = m → f.locked = none → f.entered = [] → (doReturn e (T'.setTop f) acts r).1 = T'.setFrames fs) → Steps p.tables e below (T0.setTop (mkF m pc L S)) (T'.setFrames fs) := by
  obtain ⟨f1, G', f2, f3⟩ := hQ
  obtain ⟨T', locs', k', n', r, G'', g1, g2, g3, g4, g5, g6, g7, g8⟩ := h v G' f3 hw p e s m args below meth c T _ L hx hby hml hret hnm hown hZ hf hsz X f2 (Fr.app hF f1)
  exact ⟨T', locs', k', n', r, G'', g1, g2, g3, g4, g5, g6, g7, fun fs hr => st _ (g8 fs hr)⟩
theorem Runs.callS {QN : Option Value → AH → Prop} (d : DAt M pc (.invokestatic idx) 3 q) (wl : Jvm.Cond.methodLink M.1.cls idx N.1 ∈ tables_1) (wt : Jvm.Cond.static N.1 ∈ tables_1) (wc : code_w N) (ar : arity N as.length) (hr0 : room_ok M N W) (hfull : full_ok M k n) (hS : S = as.reverse ++ S') (hW : (S'.map fun v => v.category).sum = W)
    (hN : Pays C N as G QN) (h : ∀ v G', QN v G' → Runs C M k n q P (v.toList ++ S') G' Q) : Runs C M k n pc P S G Q := by
  intro hw p e s m args below meth c T locs L hx hby hml hret hnm hown hZ hf hsz X hR hF
  have hq := d.2
  subst hq hS
  have hr := hr0.al hfull
  obtain ⟨_, _, ⟨T1, L1, k1, n1⟩, -, X1, ⟨Lc, hQ, l1, y1, z1⟩, st⟩ := Jvm.LawKit.callS X hx (y := N.1) hown (mvT hZ (hw _ wl)) (mvT hZ (hw _ wt)) (mvT hZ (hw _ wc.2.1)) (mvT hZ (hw _ wc.1)) wc.2.2 (backOf (W := W) (Q := fun v h L => Fr C.2.2.1 L ∧ ∃ G', Rep C.2.1 C.2.2.1 h G' ∧ QN v G') (hN hw T.heap hR []) hZ (hw _ wc.1) (hw _ wc.2.1) hr.1 hr.2.1) (g := mkF m pc L (as.reverse ++ S')) rfl (by rw [hml]; exact hsz) (argsL := as) (rest := S') (ar.len rfl) rfl (by show 2 * 0 + _ ≤ _; omega) (hb hby d.1) (fun _ _ => ⟨rfl, rfl, hr.2.2.1, hr.2.2.2⟩)
  dsimp only [Pt.U, Pt.locs, Pt.cells, Pt.slots] at X1 l1 y1 z1 st hQ
  subst l1 y1 z1
  exact after_call hw hx hby hml hret hnm hown hZ hf hsz hF X1 hQ (by rw [hr0.2.2.1, hr0.2.2.2]; exact h) (fun t u => st t u)
theorem Runs.callV {QN : Option Value → AH → Prop} (d : DAt M pc (.invokevirtual idx) 3 q) (wl : Jvm.Cond.methodLink M.1.cls idx N.1 ∈ tables_1) (wd : Jvm.Cond.declares N.1 ∈ tables_1) (wi : Jvm.Cond.instanceMethod N.1 ∈ tables_1) (ws : Jvm.Cond.selects K.1 N.1 N.1 ∈ tables_1) (wc : code_w N) (ar : arity N as.length) (hr0 : room_ok M N W) (hfull : full_ok M k n) (hS : S = as.reverse ++ .ref a :: S') (hW : (S'.map fun v => v.category).sum = W)
    (hN : Pays C N (.ref a :: as) (top, (a, qq, ob) :: H) QN) (h : ∀ v G', QN v G' → Runs C M k n q P (v.toList ++ S') G' Q) : Runs C M k n pc P S (top, (a, qq, ob) :: H) Q := by
  intro hw p e s m args below meth c T locs L hx hby hml hret hnm hown hZ hf hsz X hR hF
  have hq := d.2
  subst hq hS
  have hr := hr0.al hfull
  obtain ⟨cB, kB, u1, -, u3⟩ := isOf hZ rfl hR.objs.2.2.1
  obtain ⟨_, _, ⟨T1, L1, k1, n1⟩, -, X1, ⟨Lc, hQ, l1, y1, z1⟩, st⟩ := X.virtualBack hx (y := N.1) (z := N.1) hown (mvT hZ (hw _ wl)) (mvT hZ (hw _ wd)) (notFace_of_selects (args := #[]) (mvT hZ (hw _ ws))) (mvT hZ (hw _ ws)) (mvT hZ (hw _ wi)) wc.2.2 (backOf (W := W) (Q := fun v h L => Fr C.2.2.1 L ∧ ∃ G', Rep C.2.1 C.2.2.1 h G' ∧ QN v G') (hN hw T.heap hR []) hZ (hw _ wc.1) (hw _ wc.2.1) hr.1 hr.2.1) u1 u3 (g := mkF m pc L (as.reverse ++ .ref a :: S')) rfl (by rw [hml]; exact hsz) (Steps.refl _) (argsL := as) (rest := S') (ar.len rfl) rfl (by show 2 * 0 + _ ≤ _; omega) (hb hby d.1) (fun _ _ => ⟨rfl, rfl, hr.2.2.1, hr.2.2.2⟩)
  dsimp only [Pt.U, Pt.locs, Pt.cells, Pt.slots] at X1 l1 y1 z1 st hQ
  subst l1 y1 z1
  exact after_call hw hx hby hml hret hnm hown hZ hf hsz hF X1 hQ (by rw [hr0.2.2.1, hr0.2.2.2]; exact h) (fun t u => st.trans u)
theorem Runs.callP {QN : Option Value → AH → Prop} (d : DAt M pc (.invokevirtual idx) 3 q) (wl : Jvm.Cond.methodLink M.1.cls idx N.1 ∈ tables_1) (wi : Jvm.Cond.instanceMethod N.1 ∈ tables_1) (wp : Jvm.Cond.privateMethod N.1 ∈ tables_1) (wK : N.1.cls = K.1) (wc : code_w N) (ar : arity N as.length) (hr0 : room_ok M N W) (hfull : full_ok M k n) (hS : S = as.reverse ++ .ref a :: S') (hW : (S'.map fun v => v.category).sum = W)
    (hN : Pays C N (.ref a :: as) (top, (a, qq, ob) :: H) QN) (h : ∀ v G', QN v G' → Runs C M k n q P (v.toList ++ S') G' Q) : Runs C M k n pc P S (top, (a, qq, ob) :: H) Q := by
  intro hw p e s m args below meth c T locs L hx hby hml hret hnm hown hZ hf hsz X hR hF
  have hq := d.2
  subst hq hS
  have hr := hr0.al hfull
  obtain ⟨cl, u1, u2⟩ := hR.objs.2.2.1.cell
  have hpr : s.PrivateAt N.1 := Cond.privateMethod_at (mvP hZ (hw _ wp) (args := #[]))
  obtain ⟨c2, k2, i1, i2, i3, i4, -⟩ := Cond.instantiable_spec (mvT (args := args) hZ (hw _ kI))
  have hsel : (Jvm.Cond.selects N.1.cls N.1 N.1).before args s = true := Stand.selects_self_of_private (by rw [wK]; exact i1) i2 (by simp at i4; exact i4.1) hpr (mvT hZ (hw _ wi)) wc.2.2
  obtain ⟨_, _, ⟨T1, L1, k1, n1⟩, -, X1, ⟨Lc, hQ, l1, y1, z1⟩, st⟩ := X.privateBack hx (y := N.1) hown (mvT hZ (hw _ wl)) (mvT hZ (hw _ wi)) hsel hpr (mvT hZ (hw _ wc.1)) wc.2.2 (backOf (W := W) (Q := fun v h L => Fr C.2.2.1 L ∧ ∃ G', Rep C.2.1 C.2.2.1 h G' ∧ QN v G') (hN hw T.heap hR []) hZ (hw _ wc.1) (hw _ wc.2.1) hr.1 hr.2.1) (g := mkF m pc L (as.reverse ++ .ref a :: S')) rfl (by rw [hml]; exact hsz) (Steps.refl _) (a := a) u1 u2 (argsL := as) (rest := S') (ar.len rfl) rfl (by show 2 * 0 + _ ≤ _; omega) (hb hby d.1) (fun _ _ => ⟨rfl, rfl, hr.2.2.1, hr.2.2.2⟩)
  dsimp only [Pt.U, Pt.locs, Pt.cells, Pt.slots] at X1 l1 y1 z1 st hQ
  subst l1 y1 z1
  exact after_call hw hx hby hml hret hnm hown hZ hf hsz hF X1 hQ (by rw [hr0.2.2.1, hr0.2.2.2]; exact h) (fun t u => st.trans u)
theorem Runs.callI {QN : Option Value → AH → Prop} (d : DAt M pc (.invokespecial idx) 3 q) (hi : N.1.name = "<init>") (hn : N.2.2.2.1 = none) (wl : Jvm.Cond.methodLink M.1.cls idx N.1 ∈ tables_1) (wi : Jvm.Cond.instanceMethod N.1 ∈ tables_1) (wc : code_w N) (ar : arity N as.length) (hr : room_al M N W k n) (hS : S = as.reverse ++ .ref a :: S') (hW : (S'.map fun v => v.category).sum = W) {k' n' : Nat} (hk' : k + N.2.2.2.2.cells = k') (hn' : n + N.2.2.2.2.slots = n')
    (hN : Pays C N (.ref a :: as) G QN) (h : ∀ v G', QN v G' → Runs C M k' n' q P (v.toList ++ S') G' Q) : Runs C M k n pc P S G Q := by
  intro hw p e s m args below meth c T locs L hx hby hml hret hnm hown hZ hf hsz X hR hF
  have hq := d.2
  subst hq hS hk' hn'
  have wc1 := hw _ wc.1
  obtain ⟨_, _, ⟨T1, L1, k1, n1⟩, -, X1, ⟨Lc, hQ, l1, y1, z1⟩, st⟩ := X.specialBack hx (y := N.1) hi hown (mvT hZ (hw _ wl)) (mvT hZ (hw _ wi)) (bytes := N.2.1) (maxL := N.2.2.1) (by have := mvT (args := args) hZ wc1; rw [hn] at this; exact this) wc.2.2 (backOf (W := W) (Q := fun v h L => Fr C.2.2.1 L ∧ ∃ G', Rep C.2.1 C.2.2.1 h G' ∧ QN v G') (hN hw T.heap hR []) hZ wc1 (hw _ wc.2.1) hr.1 hr.2.1) (g := mkF m pc L (as.reverse ++ .ref a :: S')) rfl (by rw [hml]; exact hsz) (Steps.refl _) (a := a) (argsL := as) (rest := S') (ar.len rfl) rfl (by show 2 * 0 + _ ≤ _; omega) (hb hby d.1) (fun _ _ => ⟨rfl, rfl, hr.2.2.1, hr.2.2.2⟩)
  dsimp only [Pt.U, Pt.locs, Pt.cells, Pt.slots] at X1 l1 y1 z1 st hQ
  subst l1 y1 z1
  exact after_call hw hx hby hml hret hnm hown hZ hf hsz hF X1 hQ h (fun t u => st.trans u)
/-- the plain form of a contract: one answer, one heap -/
abbrev Ans (r : Option Value) (G1 : AH) : Option Value → AH → Prop := fun v G' => v = r ∧ G' = G1
theorem ans1 {x : Value} {k n : Nat} (h : Runs C M k n pc P (x :: S) G1 Q) : ∀ v G', Ans (some x) G1 v G' → Runs C M k n pc P (v.toList ++ S) G' Q := by
  rintro v G' ⟨rfl, rfl⟩; exact h
theorem ans0 {k n : Nat} (h : Runs C M k n pc P S G1 Q) : ∀ v G', Ans none G1 v G' → Runs C M k n pc P (v.toList ++ S) G' Q := by
  rintro v G' ⟨rfl, rfl⟩; exact h
end Calls
theorem pnK : plainName "MirrorResync" = true := by first | (simp [plainName, overriddenIn]; done) | decide +kernel
theorem pnL : plainName "MirrorResyncL6" = true := by first | (simp [plainName, overriddenIn]; done) | decide +kernel
theorem w0 : (Jvm.Cond.classLink "MirrorResyncL6" (12 : Nat) "MirrorResync") ∈ tables_1 := mem1 0 rfl
theorem w3 : (Jvm.Cond.methodLink "MirrorResyncL6" (44 : Nat) ({ cls := "MirrorResync", name := "<init>", desc := "(III)V" } : Jvm.MethodName)) ∈ tables_1 := mem1 3 rfl
theorem w4 : (Jvm.Cond.instanceMethod ({ cls := "MirrorResync", name := "<init>", desc := "(III)V" } : Jvm.MethodName)) ∈ tables_1 := mem1 4 rfl
theorem w6 : (Jvm.Cond.methodLink "MirrorResync" (1 : Nat) ({ cls := "java/lang/Object", name := "<init>", desc := "()V" } : Jvm.MethodName)) ∈ tables_1 := mem1 6 rfl
theorem w7 : (Jvm.Cond.instanceMethod ({ cls := "java/lang/Object", name := "<init>", desc := "()V" } : Jvm.MethodName)) ∈ tables_1 := mem1 7 rfl
theorem w8 : (Jvm.Cond.code ({ cls := "java/lang/Object", name := "<init>", desc := "()V" } : Jvm.MethodName) object_method_1_code (1 : Nat) (Option.none : Option Jvm.ClassFile.FieldType)) ∈ tables_1 := mem1 8 rfl
theorem w9 : (Jvm.Cond.arrayClass Jvm.ClassFile.FieldType.int) ∈ tables_1 := mem1 9 rfl
theorem w10 : (Jvm.Cond.fieldLink "MirrorResync" (7 : Nat) "MirrorResync" "data" "[I") ∈ tables_1 := mem1 10 rfl
theorem w11 : (Jvm.Cond.lays "MirrorResync" "MirrorResync" "data" "[I") ∈ tables_1 := mem1 11 rfl
theorem w12 : (Jvm.Cond.fieldLink "MirrorResync" (13 : Nat) "MirrorResync" "acked" "[I") ∈ tables_1 := mem1 12 rfl
theorem w13 : (Jvm.Cond.lays "MirrorResync" "MirrorResync" "acked" "[I") ∈ tables_1 := mem1 13 rfl
theorem w14 : (Jvm.Cond.fieldLink "MirrorResync" (16 : Nat) "MirrorResync" "state" "[I") ∈ tables_1 := mem1 14 rfl
theorem w15 : (Jvm.Cond.lays "MirrorResync" "MirrorResync" "state" "[I") ∈ tables_1 := mem1 15 rfl
theorem w16 : (Jvm.Cond.arrayClass Jvm.ClassFile.FieldType.boolean) ∈ tables_1 := mem1 16 rfl
theorem w17 : (Jvm.Cond.fieldLink "MirrorResync" (19 : Nat) "MirrorResync" "dirty" "[Z") ∈ tables_1 := mem1 17 rfl
theorem w18 : (Jvm.Cond.lays "MirrorResync" "MirrorResync" "dirty" "[Z") ∈ tables_1 := mem1 18 rfl
theorem w19 : (Jvm.Cond.fieldLink "MirrorResync" (23 : Nat) "MirrorResync" "pending" "[Z") ∈ tables_1 := mem1 19 rfl
theorem w20 : (Jvm.Cond.lays "MirrorResync" "MirrorResync" "pending" "[Z") ∈ tables_1 := mem1 20 rfl
theorem w21 : (Jvm.Cond.fieldLink "MirrorResync" (26 : Nat) "MirrorResync" "age" "[I") ∈ tables_1 := mem1 21 rfl
theorem w22 : (Jvm.Cond.lays "MirrorResync" "MirrorResync" "age" "[I") ∈ tables_1 := mem1 22 rfl
theorem w23 : (Jvm.Cond.methodLink "MirrorResync" (29 : Nat) ({ cls := "MirrorResync", name := "clamp", desc := "(III)I" } : Jvm.MethodName)) ∈ tables_1 := mem1 23 rfl
theorem w24 : (Jvm.Cond.static ({ cls := "MirrorResync", name := "clamp", desc := "(III)I" } : Jvm.MethodName)) ∈ tables_1 := mem1 24 rfl
theorem w26 : (Jvm.Cond.fieldLink "MirrorResync" (33 : Nat) "MirrorResync" "n" "I") ∈ tables_1 := mem1 26 rfl
theorem w27 : (Jvm.Cond.lays "MirrorResync" "MirrorResync" "n" "I") ∈ tables_1 := mem1 27 rfl
theorem w28 : (Jvm.Cond.fieldLink "MirrorResync" (37 : Nat) "MirrorResync" "regionSize" "I") ∈ tables_1 := mem1 28 rfl
theorem w29 : (Jvm.Cond.lays "MirrorResync" "MirrorResync" "regionSize" "I") ∈ tables_1 := mem1 29 rfl
theorem w30 : (Jvm.Cond.fieldLink "MirrorResync" (40 : Nat) "MirrorResync" "clearDelay" "I") ∈ tables_1 := mem1 30 rfl
theorem w31 : (Jvm.Cond.lays "MirrorResync" "MirrorResync" "clearDelay" "I") ∈ tables_1 := mem1 31 rfl
theorem w32 : (Jvm.Cond.fieldLink "MirrorResync" (43 : Nat) "MirrorResync" "regions" "I") ∈ tables_1 := mem1 32 rfl
theorem w33 : (Jvm.Cond.lays "MirrorResync" "MirrorResync" "regions" "I") ∈ tables_1 := mem1 33 rfl
theorem w34 : (Jvm.Cond.fieldLink "MirrorResync" (46 : Nat) "MirrorResync" "down" "Z") ∈ tables_1 := mem1 34 rfl
theorem w35 : (Jvm.Cond.lays "MirrorResync" "MirrorResync" "down" "Z") ∈ tables_1 := mem1 35 rfl
theorem w36 : (Jvm.Cond.fieldLink "MirrorResync" (50 : Nat) "MirrorResync" "busy" "Z") ∈ tables_1 := mem1 36 rfl
theorem w37 : (Jvm.Cond.lays "MirrorResync" "MirrorResync" "busy" "Z") ∈ tables_1 := mem1 37 rfl
theorem w38 : (Jvm.Cond.fieldLink "MirrorResync" (53 : Nat) "MirrorResync" "pBlock" "I") ∈ tables_1 := mem1 38 rfl
theorem w39 : (Jvm.Cond.lays "MirrorResync" "MirrorResync" "pBlock" "I") ∈ tables_1 := mem1 39 rfl
theorem w40 : (Jvm.Cond.fieldLink "MirrorResync" (56 : Nat) "MirrorResync" "pValue" "I") ∈ tables_1 := mem1 40 rfl
theorem w41 : (Jvm.Cond.lays "MirrorResync" "MirrorResync" "pValue" "I") ∈ tables_1 := mem1 41 rfl
theorem w42 : (Jvm.Cond.fieldLink "MirrorResync" (59 : Nat) "MirrorResync" "pCursor" "I") ∈ tables_1 := mem1 42 rfl
theorem w43 : (Jvm.Cond.lays "MirrorResync" "MirrorResync" "pCursor" "I") ∈ tables_1 := mem1 43 rfl
theorem w44 : (Jvm.Cond.methodLink "MirrorResyncL6" (50 : Nat) ({ cls := "MirrorResync", name := "crash", desc := "()I" } : Jvm.MethodName)) ∈ tables_1 := mem1 44 rfl
theorem w45 : (Jvm.Cond.declares ({ cls := "MirrorResync", name := "crash", desc := "()I" } : Jvm.MethodName)) ∈ tables_1 := mem1 45 rfl
theorem w46 : (Jvm.Cond.instanceMethod ({ cls := "MirrorResync", name := "crash", desc := "()I" } : Jvm.MethodName)) ∈ tables_1 := mem1 46 rfl
theorem w47 : (Jvm.Cond.selects "MirrorResync" ({ cls := "MirrorResync", name := "crash", desc := "()I" } : Jvm.MethodName) ({ cls := "MirrorResync", name := "crash", desc := "()I" } : Jvm.MethodName)) ∈ tables_1 := mem1 47 rfl
theorem w49 : (Jvm.Cond.methodLink "MirrorResync" (74 : Nat) ({ cls := "MirrorResync", name := "clearPending", desc := "()V" } : Jvm.MethodName)) ∈ tables_1 := mem1 49 rfl
theorem w50 : (Jvm.Cond.instanceMethod ({ cls := "MirrorResync", name := "clearPending", desc := "()V" } : Jvm.MethodName)) ∈ tables_1 := mem1 50 rfl
theorem w51 : (Jvm.Cond.privateMethod ({ cls := "MirrorResync", name := "clearPending", desc := "()V" } : Jvm.MethodName)) ∈ tables_1 := mem1 51 rfl
theorem w53 : (Jvm.Cond.methodLink "MirrorResyncL6" (75 : Nat) ({ cls := "MirrorResyncL6", name := "agrees", desc := "(LMirrorResync;JJJIIZIIZ)Z" } : Jvm.MethodName)) ∈ tables_1 := mem1 53 rfl
theorem w54 : (Jvm.Cond.static ({ cls := "MirrorResyncL6", name := "agrees", desc := "(LMirrorResync;JJJIIZIIZ)Z" } : Jvm.MethodName)) ∈ tables_1 := mem1 54 rfl
theorem w57 : (Jvm.Cond.methodLink "MirrorResyncL6" (11 : Nat) ({ cls := "MirrorResync", name := "legState", desc := "(I)I" } : Jvm.MethodName)) ∈ tables_1 := mem1 57 rfl
theorem w58 : (Jvm.Cond.declares ({ cls := "MirrorResync", name := "legState", desc := "(I)I" } : Jvm.MethodName)) ∈ tables_1 := mem1 58 rfl
theorem w59 : (Jvm.Cond.instanceMethod ({ cls := "MirrorResync", name := "legState", desc := "(I)I" } : Jvm.MethodName)) ∈ tables_1 := mem1 59 rfl
theorem w60 : (Jvm.Cond.selects "MirrorResync" ({ cls := "MirrorResync", name := "legState", desc := "(I)I" } : Jvm.MethodName) ({ cls := "MirrorResync", name := "legState", desc := "(I)I" } : Jvm.MethodName)) ∈ tables_1 := mem1 60 rfl
theorem w62 : (Jvm.Cond.methodLink "MirrorResync" (77 : Nat) ({ cls := "MirrorResync", name := "validLeg", desc := "(I)Z" } : Jvm.MethodName)) ∈ tables_1 := mem1 62 rfl
theorem w63 : (Jvm.Cond.instanceMethod ({ cls := "MirrorResync", name := "validLeg", desc := "(I)Z" } : Jvm.MethodName)) ∈ tables_1 := mem1 63 rfl
theorem w64 : (Jvm.Cond.privateMethod ({ cls := "MirrorResync", name := "validLeg", desc := "(I)Z" } : Jvm.MethodName)) ∈ tables_1 := mem1 64 rfl
theorem w66 : (Jvm.Cond.methodLink "MirrorResyncL6" (17 : Nat) ({ cls := "MirrorResync", name := "isDown", desc := "()Z" } : Jvm.MethodName)) ∈ tables_1 := mem1 66 rfl
theorem w67 : (Jvm.Cond.declares ({ cls := "MirrorResync", name := "isDown", desc := "()Z" } : Jvm.MethodName)) ∈ tables_1 := mem1 67 rfl
theorem w68 : (Jvm.Cond.instanceMethod ({ cls := "MirrorResync", name := "isDown", desc := "()Z" } : Jvm.MethodName)) ∈ tables_1 := mem1 68 rfl
theorem w69 : (Jvm.Cond.selects "MirrorResync" ({ cls := "MirrorResync", name := "isDown", desc := "()Z" } : Jvm.MethodName) ({ cls := "MirrorResync", name := "isDown", desc := "()Z" } : Jvm.MethodName)) ∈ tables_1 := mem1 69 rfl
theorem w71 : (Jvm.Cond.methodLink "MirrorResyncL6" (21 : Nat) ({ cls := "MirrorResync", name := "pendingBlock", desc := "()I" } : Jvm.MethodName)) ∈ tables_1 := mem1 71 rfl
theorem w72 : (Jvm.Cond.declares ({ cls := "MirrorResync", name := "pendingBlock", desc := "()I" } : Jvm.MethodName)) ∈ tables_1 := mem1 72 rfl
theorem w73 : (Jvm.Cond.instanceMethod ({ cls := "MirrorResync", name := "pendingBlock", desc := "()I" } : Jvm.MethodName)) ∈ tables_1 := mem1 73 rfl
theorem w74 : (Jvm.Cond.selects "MirrorResync" ({ cls := "MirrorResync", name := "pendingBlock", desc := "()I" } : Jvm.MethodName) ({ cls := "MirrorResync", name := "pendingBlock", desc := "()I" } : Jvm.MethodName)) ∈ tables_1 := mem1 74 rfl
theorem w76 : (Jvm.Cond.methodLink "MirrorResyncL6" (25 : Nat) ({ cls := "MirrorResync", name := "pendingCursor", desc := "()I" } : Jvm.MethodName)) ∈ tables_1 := mem1 76 rfl
theorem w77 : (Jvm.Cond.declares ({ cls := "MirrorResync", name := "pendingCursor", desc := "()I" } : Jvm.MethodName)) ∈ tables_1 := mem1 77 rfl
theorem w78 : (Jvm.Cond.instanceMethod ({ cls := "MirrorResync", name := "pendingCursor", desc := "()I" } : Jvm.MethodName)) ∈ tables_1 := mem1 78 rfl
theorem w79 : (Jvm.Cond.selects "MirrorResync" ({ cls := "MirrorResync", name := "pendingCursor", desc := "()I" } : Jvm.MethodName) ({ cls := "MirrorResync", name := "pendingCursor", desc := "()I" } : Jvm.MethodName)) ∈ tables_1 := mem1 79 rfl
theorem w81 : (Jvm.Cond.methodLink "MirrorResyncL6" (28 : Nat) ({ cls := "MirrorResync", name := "read", desc := "(I)I" } : Jvm.MethodName)) ∈ tables_1 := mem1 81 rfl
theorem w82 : (Jvm.Cond.declares ({ cls := "MirrorResync", name := "read", desc := "(I)I" } : Jvm.MethodName)) ∈ tables_1 := mem1 82 rfl
theorem w83 : (Jvm.Cond.instanceMethod ({ cls := "MirrorResync", name := "read", desc := "(I)I" } : Jvm.MethodName)) ∈ tables_1 := mem1 83 rfl
theorem w84 : (Jvm.Cond.selects "MirrorResync" ({ cls := "MirrorResync", name := "read", desc := "(I)I" } : Jvm.MethodName) ({ cls := "MirrorResync", name := "read", desc := "(I)I" } : Jvm.MethodName)) ∈ tables_1 := mem1 84 rfl
theorem w86 : (Jvm.Cond.methodLink "MirrorResyncL6" (31 : Nat) ({ cls := "MirrorResync", name := "peek", desc := "(II)I" } : Jvm.MethodName)) ∈ tables_1 := mem1 86 rfl
theorem w87 : (Jvm.Cond.declares ({ cls := "MirrorResync", name := "peek", desc := "(II)I" } : Jvm.MethodName)) ∈ tables_1 := mem1 87 rfl
theorem w88 : (Jvm.Cond.instanceMethod ({ cls := "MirrorResync", name := "peek", desc := "(II)I" } : Jvm.MethodName)) ∈ tables_1 := mem1 88 rfl
theorem w89 : (Jvm.Cond.selects "MirrorResync" ({ cls := "MirrorResync", name := "peek", desc := "(II)I" } : Jvm.MethodName) ({ cls := "MirrorResync", name := "peek", desc := "(II)I" } : Jvm.MethodName)) ∈ tables_1 := mem1 89 rfl
theorem w91 : (Jvm.Cond.methodLink "MirrorResyncL6" (35 : Nat) ({ cls := "MirrorResync", name := "ackedValue", desc := "(I)I" } : Jvm.MethodName)) ∈ tables_1 := mem1 91 rfl
theorem w92 : (Jvm.Cond.declares ({ cls := "MirrorResync", name := "ackedValue", desc := "(I)I" } : Jvm.MethodName)) ∈ tables_1 := mem1 92 rfl
theorem w93 : (Jvm.Cond.instanceMethod ({ cls := "MirrorResync", name := "ackedValue", desc := "(I)I" } : Jvm.MethodName)) ∈ tables_1 := mem1 93 rfl
theorem w94 : (Jvm.Cond.selects "MirrorResync" ({ cls := "MirrorResync", name := "ackedValue", desc := "(I)I" } : Jvm.MethodName) ({ cls := "MirrorResync", name := "ackedValue", desc := "(I)I" } : Jvm.MethodName)) ∈ tables_1 := mem1 94 rfl
theorem w96 : (Jvm.Cond.methodLink "MirrorResync" (62 : Nat) ({ cls := "MirrorResync", name := "validBlock", desc := "(I)Z" } : Jvm.MethodName)) ∈ tables_1 := mem1 96 rfl
theorem w97 : (Jvm.Cond.instanceMethod ({ cls := "MirrorResync", name := "validBlock", desc := "(I)Z" } : Jvm.MethodName)) ∈ tables_1 := mem1 97 rfl
theorem w98 : (Jvm.Cond.privateMethod ({ cls := "MirrorResync", name := "validBlock", desc := "(I)Z" } : Jvm.MethodName)) ∈ tables_1 := mem1 98 rfl
theorem w100 : (Jvm.Cond.methodLink "MirrorResyncL6" (38 : Nat) ({ cls := "MirrorResyncL6", name := "get", desc := "(JI)I" } : Jvm.MethodName)) ∈ tables_1 := mem1 100 rfl
theorem w101 : (Jvm.Cond.static ({ cls := "MirrorResyncL6", name := "get", desc := "(JI)I" } : Jvm.MethodName)) ∈ tables_1 := mem1 101 rfl
theorem w103 : (Jvm.Cond.constantLong "MirrorResyncL6" (7 : Nat) (31 : Int64)) ∈ tables_1 := mem1 103 rfl
theorem w104 : (Jvm.Cond.methodLink "MirrorResyncL6" (47 : Nat) ({ cls := "MirrorResync", name := "write", desc := "(II)I" } : Jvm.MethodName)) ∈ tables_1 := mem1 104 rfl
theorem w105 : (Jvm.Cond.declares ({ cls := "MirrorResync", name := "write", desc := "(II)I" } : Jvm.MethodName)) ∈ tables_1 := mem1 105 rfl
theorem w106 : (Jvm.Cond.instanceMethod ({ cls := "MirrorResync", name := "write", desc := "(II)I" } : Jvm.MethodName)) ∈ tables_1 := mem1 106 rfl
theorem w107 : (Jvm.Cond.selects "MirrorResync" ({ cls := "MirrorResync", name := "write", desc := "(II)I" } : Jvm.MethodName) ({ cls := "MirrorResync", name := "write", desc := "(II)I" } : Jvm.MethodName)) ∈ tables_1 := mem1 107 rfl
theorem w109 : (Jvm.Cond.methodLink "MirrorResyncL6" (56 : Nat) ({ cls := "MirrorResync", name := "failLeg", desc := "(I)I" } : Jvm.MethodName)) ∈ tables_1 := mem1 109 rfl
theorem w110 : (Jvm.Cond.declares ({ cls := "MirrorResync", name := "failLeg", desc := "(I)I" } : Jvm.MethodName)) ∈ tables_1 := mem1 110 rfl
theorem w111 : (Jvm.Cond.instanceMethod ({ cls := "MirrorResync", name := "failLeg", desc := "(I)I" } : Jvm.MethodName)) ∈ tables_1 := mem1 111 rfl
theorem w112 : (Jvm.Cond.selects "MirrorResync" ({ cls := "MirrorResync", name := "failLeg", desc := "(I)I" } : Jvm.MethodName) ({ cls := "MirrorResync", name := "failLeg", desc := "(I)I" } : Jvm.MethodName)) ∈ tables_1 := mem1 112 rfl
theorem w114 : (Jvm.Cond.methodLink "MirrorResyncL6" (53 : Nat) ({ cls := "MirrorResync", name := "restart", desc := "()I" } : Jvm.MethodName)) ∈ tables_1 := mem1 114 rfl
theorem w115 : (Jvm.Cond.declares ({ cls := "MirrorResync", name := "restart", desc := "()I" } : Jvm.MethodName)) ∈ tables_1 := mem1 115 rfl
theorem w116 : (Jvm.Cond.instanceMethod ({ cls := "MirrorResync", name := "restart", desc := "()I" } : Jvm.MethodName)) ∈ tables_1 := mem1 116 rfl
theorem w117 : (Jvm.Cond.selects "MirrorResync" ({ cls := "MirrorResync", name := "restart", desc := "()I" } : Jvm.MethodName) ({ cls := "MirrorResync", name := "restart", desc := "()I" } : Jvm.MethodName)) ∈ tables_1 := mem1 117 rfl
theorem w119 : (Jvm.Cond.constant "MirrorResync" (66 : Nat) (65535 : Int32)) ∈ tables_1 := mem1 119 rfl
theorem w120 : (Jvm.Cond.methodLink "MirrorResync" (67 : Nat) ({ cls := "MirrorResync", name := "markDirty", desc := "(I)V" } : Jvm.MethodName)) ∈ tables_1 := mem1 120 rfl
theorem w121 : (Jvm.Cond.instanceMethod ({ cls := "MirrorResync", name := "markDirty", desc := "(I)V" } : Jvm.MethodName)) ∈ tables_1 := mem1 121 rfl
theorem w122 : (Jvm.Cond.privateMethod ({ cls := "MirrorResync", name := "markDirty", desc := "(I)V" } : Jvm.MethodName)) ∈ tables_1 := mem1 122 rfl
theorem w124 : (Jvm.Cond.methodLink "MirrorResyncL6" (68 : Nat) ({ cls := "MirrorResync", name := "step", desc := "()I" } : Jvm.MethodName)) ∈ tables_1 := mem1 124 rfl
theorem w125 : (Jvm.Cond.declares ({ cls := "MirrorResync", name := "step", desc := "()I" } : Jvm.MethodName)) ∈ tables_1 := mem1 125 rfl
theorem w126 : (Jvm.Cond.instanceMethod ({ cls := "MirrorResync", name := "step", desc := "()I" } : Jvm.MethodName)) ∈ tables_1 := mem1 126 rfl
theorem w127 : (Jvm.Cond.selects "MirrorResync" ({ cls := "MirrorResync", name := "step", desc := "()I" } : Jvm.MethodName) ({ cls := "MirrorResync", name := "step", desc := "()I" } : Jvm.MethodName)) ∈ tables_1 := mem1 127 rfl
theorem w129 : (Jvm.Cond.methodLink "MirrorResyncL6" (59 : Nat) ({ cls := "MirrorResync", name := "reattachLeg", desc := "(I)I" } : Jvm.MethodName)) ∈ tables_1 := mem1 129 rfl
theorem w130 : (Jvm.Cond.declares ({ cls := "MirrorResync", name := "reattachLeg", desc := "(I)I" } : Jvm.MethodName)) ∈ tables_1 := mem1 130 rfl
theorem w131 : (Jvm.Cond.instanceMethod ({ cls := "MirrorResync", name := "reattachLeg", desc := "(I)I" } : Jvm.MethodName)) ∈ tables_1 := mem1 131 rfl
theorem w132 : (Jvm.Cond.selects "MirrorResync" ({ cls := "MirrorResync", name := "reattachLeg", desc := "(I)I" } : Jvm.MethodName) ({ cls := "MirrorResync", name := "reattachLeg", desc := "(I)I" } : Jvm.MethodName)) ∈ tables_1 := mem1 132 rfl
theorem w134 : (Jvm.Cond.methodLink "MirrorResync" (80 : Nat) ({ cls := "MirrorResync", name := "checkDetached", desc := "(I)I" } : Jvm.MethodName)) ∈ tables_1 := mem1 134 rfl
theorem w135 : (Jvm.Cond.instanceMethod ({ cls := "MirrorResync", name := "checkDetached", desc := "(I)I" } : Jvm.MethodName)) ∈ tables_1 := mem1 135 rfl
theorem w136 : (Jvm.Cond.privateMethod ({ cls := "MirrorResync", name := "checkDetached", desc := "(I)I" } : Jvm.MethodName)) ∈ tables_1 := mem1 136 rfl
theorem w138 : (Jvm.Cond.methodLink "MirrorResyncL6" (71 : Nat) ({ cls := "MirrorResyncL6", name := "put", desc := "(JII)J" } : Jvm.MethodName)) ∈ tables_1 := mem1 138 rfl
theorem w139 : (Jvm.Cond.static ({ cls := "MirrorResyncL6", name := "put", desc := "(JII)J" } : Jvm.MethodName)) ∈ tables_1 := mem1 139 rfl
theorem w141 : (Jvm.Cond.constantLong "MirrorResyncL6" (9 : Nat) (-1 : Int64)) ∈ tables_1 := mem1 141 rfl
theorem w142 : (Jvm.Cond.methodLink "MirrorResyncL6" (65 : Nat) ({ cls := "MirrorResync", name := "resync", desc := "()I" } : Jvm.MethodName)) ∈ tables_1 := mem1 142 rfl
theorem w143 : (Jvm.Cond.declares ({ cls := "MirrorResync", name := "resync", desc := "()I" } : Jvm.MethodName)) ∈ tables_1 := mem1 143 rfl
theorem w144 : (Jvm.Cond.instanceMethod ({ cls := "MirrorResync", name := "resync", desc := "()I" } : Jvm.MethodName)) ∈ tables_1 := mem1 144 rfl
theorem w145 : (Jvm.Cond.selects "MirrorResync" ({ cls := "MirrorResync", name := "resync", desc := "()I" } : Jvm.MethodName) ({ cls := "MirrorResync", name := "resync", desc := "()I" } : Jvm.MethodName)) ∈ tables_1 := mem1 145 rfl
theorem w147 : (Jvm.Cond.methodLink "MirrorResync" (90 : Nat) ({ cls := "MirrorResync", name := "staleLeg", desc := "()I" } : Jvm.MethodName)) ∈ tables_1 := mem1 147 rfl
theorem w148 : (Jvm.Cond.instanceMethod ({ cls := "MirrorResync", name := "staleLeg", desc := "()I" } : Jvm.MethodName)) ∈ tables_1 := mem1 148 rfl
theorem w149 : (Jvm.Cond.privateMethod ({ cls := "MirrorResync", name := "staleLeg", desc := "()I" } : Jvm.MethodName)) ∈ tables_1 := mem1 149 rfl
theorem w151 : (Jvm.Cond.methodLink "MirrorResyncL6" (62 : Nat) ({ cls := "MirrorResync", name := "replaceLeg", desc := "(I)I" } : Jvm.MethodName)) ∈ tables_1 := mem1 151 rfl
theorem w152 : (Jvm.Cond.declares ({ cls := "MirrorResync", name := "replaceLeg", desc := "(I)I" } : Jvm.MethodName)) ∈ tables_1 := mem1 152 rfl
theorem w153 : (Jvm.Cond.instanceMethod ({ cls := "MirrorResync", name := "replaceLeg", desc := "(I)I" } : Jvm.MethodName)) ∈ tables_1 := mem1 153 rfl
theorem w154 : (Jvm.Cond.selects "MirrorResync" ({ cls := "MirrorResync", name := "replaceLeg", desc := "(I)I" } : Jvm.MethodName) ({ cls := "MirrorResync", name := "replaceLeg", desc := "(I)I" } : Jvm.MethodName)) ∈ tables_1 := mem1 154 rfl
theorem w156 : (Jvm.Cond.methodLink "MirrorResync" (94 : Nat) ({ cls := "MirrorResync", name := "copyDirtyRegions", desc := "(II)V" } : Jvm.MethodName)) ∈ tables_1 := mem1 156 rfl
theorem w157 : (Jvm.Cond.instanceMethod ({ cls := "MirrorResync", name := "copyDirtyRegions", desc := "(II)V" } : Jvm.MethodName)) ∈ tables_1 := mem1 157 rfl
theorem w158 : (Jvm.Cond.privateMethod ({ cls := "MirrorResync", name := "copyDirtyRegions", desc := "(II)V" } : Jvm.MethodName)) ∈ tables_1 := mem1 158 rfl
theorem w160 : (Jvm.Cond.methodLink "MirrorResync" (98 : Nat) ({ cls := "MirrorResync", name := "clearBitmap", desc := "()V" } : Jvm.MethodName)) ∈ tables_1 := mem1 160 rfl
theorem w161 : (Jvm.Cond.instanceMethod ({ cls := "MirrorResync", name := "clearBitmap", desc := "()V" } : Jvm.MethodName)) ∈ tables_1 := mem1 161 rfl
theorem w162 : (Jvm.Cond.privateMethod ({ cls := "MirrorResync", name := "clearBitmap", desc := "()V" } : Jvm.MethodName)) ∈ tables_1 := mem1 162 rfl
theorem w164 : (Jvm.Cond.methodLink "MirrorResync" (84 : Nat) ({ cls := "MirrorResync", name := "zeroLeg", desc := "(I)V" } : Jvm.MethodName)) ∈ tables_1 := mem1 164 rfl
theorem w165 : (Jvm.Cond.instanceMethod ({ cls := "MirrorResync", name := "zeroLeg", desc := "(I)V" } : Jvm.MethodName)) ∈ tables_1 := mem1 165 rfl
theorem w166 : (Jvm.Cond.privateMethod ({ cls := "MirrorResync", name := "zeroLeg", desc := "(I)V" } : Jvm.MethodName)) ∈ tables_1 := mem1 166 rfl
theorem w168 : (Jvm.Cond.methodLink "MirrorResync" (87 : Nat) ({ cls := "MirrorResync", name := "markAllDirty", desc := "()V" } : Jvm.MethodName)) ∈ tables_1 := mem1 168 rfl
theorem w169 : (Jvm.Cond.instanceMethod ({ cls := "MirrorResync", name := "markAllDirty", desc := "()V" } : Jvm.MethodName)) ∈ tables_1 := mem1 169 rfl
theorem w170 : (Jvm.Cond.privateMethod ({ cls := "MirrorResync", name := "markAllDirty", desc := "()V" } : Jvm.MethodName)) ∈ tables_1 := mem1 170 rfl
theorem w172 : (Jvm.Cond.methodLink "MirrorResync" (71 : Nat) ({ cls := "MirrorResync", name := "acknowledge", desc := "()V" } : Jvm.MethodName)) ∈ tables_1 := mem1 172 rfl
theorem w173 : (Jvm.Cond.instanceMethod ({ cls := "MirrorResync", name := "acknowledge", desc := "()V" } : Jvm.MethodName)) ∈ tables_1 := mem1 173 rfl
theorem w174 : (Jvm.Cond.privateMethod ({ cls := "MirrorResync", name := "acknowledge", desc := "()V" } : Jvm.MethodName)) ∈ tables_1 := mem1 174 rfl
theorem w176 : (Jvm.Cond.methodLink "MirrorResync" (101 : Nat) ({ cls := "MirrorResync", name := "ageOthers", desc := "(I)V" } : Jvm.MethodName)) ∈ tables_1 := mem1 176 rfl
theorem w177 : (Jvm.Cond.instanceMethod ({ cls := "MirrorResync", name := "ageOthers", desc := "(I)V" } : Jvm.MethodName)) ∈ tables_1 := mem1 177 rfl
theorem w178 : (Jvm.Cond.privateMethod ({ cls := "MirrorResync", name := "ageOthers", desc := "(I)V" } : Jvm.MethodName)) ∈ tables_1 := mem1 178 rfl
theorem w180 : (Jvm.Cond.methodLink "MirrorResync" (104 : Nat) ({ cls := "MirrorResync", name := "bothActive", desc := "()Z" } : Jvm.MethodName)) ∈ tables_1 := mem1 180 rfl
theorem w181 : (Jvm.Cond.instanceMethod ({ cls := "MirrorResync", name := "bothActive", desc := "()Z" } : Jvm.MethodName)) ∈ tables_1 := mem1 181 rfl
theorem w182 : (Jvm.Cond.privateMethod ({ cls := "MirrorResync", name := "bothActive", desc := "()Z" } : Jvm.MethodName)) ∈ tables_1 := mem1 182 rfl
theorem w184 : (Jvm.Cond.methodLink "MirrorResync" (108 : Nat) ({ cls := "MirrorResync", name := "clearAged", desc := "()V" } : Jvm.MethodName)) ∈ tables_1 := mem1 184 rfl
theorem w185 : (Jvm.Cond.instanceMethod ({ cls := "MirrorResync", name := "clearAged", desc := "()V" } : Jvm.MethodName)) ∈ tables_1 := mem1 185 rfl
theorem w186 : (Jvm.Cond.privateMethod ({ cls := "MirrorResync", name := "clearAged", desc := "()V" } : Jvm.MethodName)) ∈ tables_1 := mem1 186 rfl
theorem fS_0 : K.2.1[0]? = some ("n", "I") := rfl
theorem fS_1 : K.2.1[1]? = some ("regionSize", "I") := rfl
theorem fS_2 : K.2.1[2]? = some ("clearDelay", "I") := rfl
theorem fS_3 : K.2.1[3]? = some ("regions", "I") := rfl
theorem fS_4 : K.2.1[4]? = some ("down", "Z") := rfl
theorem fS_5 : K.2.1[5]? = some ("busy", "Z") := rfl
theorem fS_6 : K.2.1[6]? = some ("pBlock", "I") := rfl
theorem fS_7 : K.2.1[7]? = some ("pValue", "I") := rfl
theorem fS_8 : K.2.1[8]? = some ("pCursor", "I") := rfl
theorem fA_0 : K.2.2[0]? = some ("data", .int, (64 : Int32)) := rfl
theorem fA_1 : K.2.2[1]? = some ("acked", .int, (32 : Int32)) := rfl
theorem fA_2 : K.2.2[2]? = some ("state", .int, (2 : Int32)) := rfl
theorem fA_3 : K.2.2[3]? = some ("dirty", .boolean, (32 : Int32)) := rfl
theorem fA_4 : K.2.2[4]? = some ("pending", .boolean, (32 : Int32)) := rfl
theorem fA_5 : K.2.2[5]? = some ("age", .int, (32 : Int32)) := rfl
theorem cb_m5 : (Int8.ofInt (-5)).toInt32 = (-5 : Int32) := by decide
theorem cb_m4 : (Int8.ofInt (-4)).toInt32 = (-4 : Int32) := by decide
theorem cb_m3 : (Int8.ofInt (-3)).toInt32 = (-3 : Int32) := by decide
theorem cb_m2 : (Int8.ofInt (-2)).toInt32 = (-2 : Int32) := by decide
theorem cb_6 : (Int8.ofInt 6).toInt32 = (6 : Int32) := by decide
theorem cb_7 : (Int8.ofInt 7).toInt32 = (7 : Int32) := by decide
theorem cb_8 : (Int8.ofInt 8).toInt32 = (8 : Int32) := by decide
theorem cb_12 : (Int8.ofInt 12).toInt32 = (12 : Int32) := by decide
theorem cb_15 : (Int8.ofInt 15).toInt32 = (15 : Int32) := by decide
theorem cb_31 : (Int8.ofInt 31).toInt32 = (31 : Int32) := by decide
theorem cb_32 : (Int8.ofInt 32).toInt32 = (32 : Int32) := by decide
theorem cb_64 : (Int8.ofInt 64).toInt32 = (64 : Int32) := by decide
theorem ci_m1 : Int32.ofInt (-1) = (-1 : Int32) := by decide
theorem ci_0 : Int32.ofInt 0 = (0 : Int32) := by decide
theorem ci_1 : Int32.ofInt 1 = (1 : Int32) := by decide
theorem ci_2 : Int32.ofInt 2 = (2 : Int32) := by decide
theorem ci_3 : Int32.ofInt 3 = (3 : Int32) := by decide
theorem ci_4 : Int32.ofInt 4 = (4 : Int32) := by decide
theorem ci_5 : Int32.ofInt 5 = (5 : Int32) := by decide
theorem cl_0 : Int64.ofNat (0 : Fin 2) = (0 : Int64) := by decide
def B2 : Bdy := ((⟨"MirrorResync", "clamp", "(III)I"⟩ : MethodName), prog_1_method_17_code, 3, (some .int), ({ frames := 0, cells := 0, slots := 0, locals := 0 } : Room))
theorem d2_0 : DAt B2 0 (.iload_n 0) 1 1 := ⟨by decide +kernel, rfl⟩
theorem d2_1 : DAt B2 1 (.iload_n 1) 1 2 := ⟨by decide +kernel, rfl⟩
theorem d2_2 : DAt B2 2 (.if_icmp .ge 5) 3 5 := ⟨by decide +kernel, rfl⟩
theorem d2_5 : DAt B2 5 (.iload_n 1) 1 6 := ⟨by decide +kernel, rfl⟩
theorem d2_6 : DAt B2 6 (.ireturn) 1 7 := ⟨by decide +kernel, rfl⟩
theorem d2_7 : DAt B2 7 (.iload_n 0) 1 8 := ⟨by decide +kernel, rfl⟩
theorem d2_8 : DAt B2 8 (.iload_n 2) 1 9 := ⟨by decide +kernel, rfl⟩
theorem d2_9 : DAt B2 9 (.if_icmp .le 5) 3 12 := ⟨by decide +kernel, rfl⟩
theorem d2_12 : DAt B2 12 (.iload_n 2) 1 13 := ⟨by decide +kernel, rfl⟩
theorem d2_13 : DAt B2 13 (.ireturn) 1 14 := ⟨by decide +kernel, rfl⟩
theorem d2_14 : DAt B2 14 (.iload_n 0) 1 15 := ⟨by decide +kernel, rfl⟩
theorem d2_15 : DAt B2 15 (.ireturn) 1 16 := ⟨by decide +kernel, rfl⟩
def B1 : Bdy := ((⟨"MirrorResync", "<init>", "(III)V"⟩ : MethodName), prog_1_method_1_code, 4, none, ({ frames := 1, cells := 6, slots := 194, locals := 15 } : Room))
theorem d1_0 : DAt B1 0 (.aload_n 0) 1 1 := ⟨by decide +kernel, rfl⟩
theorem d1_1 : DAt B1 1 (.invokespecial 1) 3 4 := ⟨by decide +kernel, rfl⟩
theorem d1_4 : DAt B1 4 (.aload_n 0) 1 5 := ⟨by decide +kernel, rfl⟩
theorem d1_5 : DAt B1 5 (.bipush 64) 2 7 := ⟨by decide +kernel, rfl⟩
theorem d1_7 : DAt B1 7 (.newarray .int) 2 9 := ⟨by decide +kernel, rfl⟩
theorem d1_9 : DAt B1 9 (.putfield 7) 3 12 := ⟨by decide +kernel, rfl⟩
theorem d1_12 : DAt B1 12 (.aload_n 0) 1 13 := ⟨by decide +kernel, rfl⟩
theorem d1_13 : DAt B1 13 (.bipush 32) 2 15 := ⟨by decide +kernel, rfl⟩
theorem d1_15 : DAt B1 15 (.newarray .int) 2 17 := ⟨by decide +kernel, rfl⟩
theorem d1_17 : DAt B1 17 (.putfield 13) 3 20 := ⟨by decide +kernel, rfl⟩
theorem d1_20 : DAt B1 20 (.aload_n 0) 1 21 := ⟨by decide +kernel, rfl⟩
theorem d1_21 : DAt B1 21 (.iconst 2) 1 22 := ⟨by decide +kernel, rfl⟩
theorem d1_22 : DAt B1 22 (.newarray .int) 2 24 := ⟨by decide +kernel, rfl⟩
theorem d1_24 : DAt B1 24 (.putfield 16) 3 27 := ⟨by decide +kernel, rfl⟩
theorem d1_27 : DAt B1 27 (.aload_n 0) 1 28 := ⟨by decide +kernel, rfl⟩
theorem d1_28 : DAt B1 28 (.bipush 32) 2 30 := ⟨by decide +kernel, rfl⟩
theorem d1_30 : DAt B1 30 (.newarray .boolean) 2 32 := ⟨by decide +kernel, rfl⟩
theorem d1_32 : DAt B1 32 (.putfield 19) 3 35 := ⟨by decide +kernel, rfl⟩
theorem d1_35 : DAt B1 35 (.aload_n 0) 1 36 := ⟨by decide +kernel, rfl⟩
theorem d1_36 : DAt B1 36 (.bipush 32) 2 38 := ⟨by decide +kernel, rfl⟩
theorem d1_38 : DAt B1 38 (.newarray .boolean) 2 40 := ⟨by decide +kernel, rfl⟩
theorem d1_40 : DAt B1 40 (.putfield 23) 3 43 := ⟨by decide +kernel, rfl⟩
theorem d1_43 : DAt B1 43 (.aload_n 0) 1 44 := ⟨by decide +kernel, rfl⟩
theorem d1_44 : DAt B1 44 (.bipush 32) 2 46 := ⟨by decide +kernel, rfl⟩
theorem d1_46 : DAt B1 46 (.newarray .int) 2 48 := ⟨by decide +kernel, rfl⟩
theorem d1_48 : DAt B1 48 (.putfield 26) 3 51 := ⟨by decide +kernel, rfl⟩
theorem d1_51 : DAt B1 51 (.aload_n 0) 1 52 := ⟨by decide +kernel, rfl⟩
theorem d1_52 : DAt B1 52 (.iload_n 1) 1 53 := ⟨by decide +kernel, rfl⟩
theorem d1_53 : DAt B1 53 (.bipush 8) 2 55 := ⟨by decide +kernel, rfl⟩
theorem d1_55 : DAt B1 55 (.bipush 32) 2 57 := ⟨by decide +kernel, rfl⟩
theorem d1_57 : DAt B1 57 (.invokestatic 29) 3 60 := ⟨by decide +kernel, rfl⟩
theorem d1_60 : DAt B1 60 (.putfield 33) 3 63 := ⟨by decide +kernel, rfl⟩
theorem d1_63 : DAt B1 63 (.aload_n 0) 1 64 := ⟨by decide +kernel, rfl⟩
theorem d1_64 : DAt B1 64 (.iload_n 2) 1 65 := ⟨by decide +kernel, rfl⟩
theorem d1_65 : DAt B1 65 (.iconst 1) 1 66 := ⟨by decide +kernel, rfl⟩
theorem d1_66 : DAt B1 66 (.iconst 4) 1 67 := ⟨by decide +kernel, rfl⟩
theorem d1_67 : DAt B1 67 (.invokestatic 29) 3 70 := ⟨by decide +kernel, rfl⟩
theorem d1_70 : DAt B1 70 (.putfield 37) 3 73 := ⟨by decide +kernel, rfl⟩
theorem d1_73 : DAt B1 73 (.aload_n 0) 1 74 := ⟨by decide +kernel, rfl⟩
theorem d1_74 : DAt B1 74 (.iload_n 3) 1 75 := ⟨by decide +kernel, rfl⟩
theorem d1_75 : DAt B1 75 (.iconst 0) 1 76 := ⟨by decide +kernel, rfl⟩
theorem d1_76 : DAt B1 76 (.iconst 4) 1 77 := ⟨by decide +kernel, rfl⟩
theorem d1_77 : DAt B1 77 (.invokestatic 29) 3 80 := ⟨by decide +kernel, rfl⟩
theorem d1_80 : DAt B1 80 (.putfield 40) 3 83 := ⟨by decide +kernel, rfl⟩
theorem d1_83 : DAt B1 83 (.aload_n 0) 1 84 := ⟨by decide +kernel, rfl⟩
theorem d1_84 : DAt B1 84 (.aload_n 0) 1 85 := ⟨by decide +kernel, rfl⟩
theorem d1_85 : DAt B1 85 (.getfield 33) 3 88 := ⟨by decide +kernel, rfl⟩
theorem d1_88 : DAt B1 88 (.aload_n 0) 1 89 := ⟨by decide +kernel, rfl⟩
theorem d1_89 : DAt B1 89 (.getfield 37) 3 92 := ⟨by decide +kernel, rfl⟩
theorem d1_92 : DAt B1 92 (.iadd) 1 93 := ⟨by decide +kernel, rfl⟩
theorem d1_93 : DAt B1 93 (.iconst 1) 1 94 := ⟨by decide +kernel, rfl⟩
theorem d1_94 : DAt B1 94 (.isub) 1 95 := ⟨by decide +kernel, rfl⟩
theorem d1_95 : DAt B1 95 (.aload_n 0) 1 96 := ⟨by decide +kernel, rfl⟩
theorem d1_96 : DAt B1 96 (.getfield 37) 3 99 := ⟨by decide +kernel, rfl⟩
theorem d1_99 : DAt B1 99 (.idiv) 1 100 := ⟨by decide +kernel, rfl⟩
theorem d1_100 : DAt B1 100 (.putfield 43) 3 103 := ⟨by decide +kernel, rfl⟩
theorem d1_103 : DAt B1 103 (.aload_n 0) 1 104 := ⟨by decide +kernel, rfl⟩
theorem d1_104 : DAt B1 104 (.getfield 16) 3 107 := ⟨by decide +kernel, rfl⟩
theorem d1_107 : DAt B1 107 (.iconst 0) 1 108 := ⟨by decide +kernel, rfl⟩
theorem d1_108 : DAt B1 108 (.iconst 0) 1 109 := ⟨by decide +kernel, rfl⟩
theorem d1_109 : DAt B1 109 (.iastore) 1 110 := ⟨by decide +kernel, rfl⟩
theorem d1_110 : DAt B1 110 (.aload_n 0) 1 111 := ⟨by decide +kernel, rfl⟩
theorem d1_111 : DAt B1 111 (.getfield 16) 3 114 := ⟨by decide +kernel, rfl⟩
theorem d1_114 : DAt B1 114 (.iconst 1) 1 115 := ⟨by decide +kernel, rfl⟩
theorem d1_115 : DAt B1 115 (.iconst 0) 1 116 := ⟨by decide +kernel, rfl⟩
theorem d1_116 : DAt B1 116 (.iastore) 1 117 := ⟨by decide +kernel, rfl⟩
theorem d1_117 : DAt B1 117 (.aload_n 0) 1 118 := ⟨by decide +kernel, rfl⟩
theorem d1_118 : DAt B1 118 (.iconst 0) 1 119 := ⟨by decide +kernel, rfl⟩
theorem d1_119 : DAt B1 119 (.putfield 46) 3 122 := ⟨by decide +kernel, rfl⟩
theorem d1_122 : DAt B1 122 (.aload_n 0) 1 123 := ⟨by decide +kernel, rfl⟩
theorem d1_123 : DAt B1 123 (.iconst 0) 1 124 := ⟨by decide +kernel, rfl⟩
theorem d1_124 : DAt B1 124 (.putfield 50) 3 127 := ⟨by decide +kernel, rfl⟩
theorem d1_127 : DAt B1 127 (.aload_n 0) 1 128 := ⟨by decide +kernel, rfl⟩
theorem d1_128 : DAt B1 128 (.iconst (-1)) 1 129 := ⟨by decide +kernel, rfl⟩
theorem d1_129 : DAt B1 129 (.putfield 53) 3 132 := ⟨by decide +kernel, rfl⟩
theorem d1_132 : DAt B1 132 (.aload_n 0) 1 133 := ⟨by decide +kernel, rfl⟩
theorem d1_133 : DAt B1 133 (.iconst 0) 1 134 := ⟨by decide +kernel, rfl⟩
theorem d1_134 : DAt B1 134 (.putfield 56) 3 137 := ⟨by decide +kernel, rfl⟩
theorem d1_137 : DAt B1 137 (.aload_n 0) 1 138 := ⟨by decide +kernel, rfl⟩
theorem d1_138 : DAt B1 138 (.iconst (-1)) 1 139 := ⟨by decide +kernel, rfl⟩
theorem d1_139 : DAt B1 139 (.putfield 59) 3 142 := ⟨by decide +kernel, rfl⟩
theorem d1_142 : DAt B1 142 (.return_) 1 143 := ⟨by decide +kernel, rfl⟩
def B14 : Bdy := ((⟨"MirrorResync", "validBlock", "(I)Z"⟩ : MethodName), prog_1_method_18_code, 2, (some .boolean), ({ frames := 0, cells := 0, slots := 0, locals := 0 } : Room))
theorem d14_0 : DAt B14 0 (.iload_n 1) 1 1 := ⟨by decide +kernel, rfl⟩
theorem d14_1 : DAt B14 1 (.ifCond .lt 15) 3 4 := ⟨by decide +kernel, rfl⟩
theorem d14_4 : DAt B14 4 (.iload_n 1) 1 5 := ⟨by decide +kernel, rfl⟩
theorem d14_5 : DAt B14 5 (.aload_n 0) 1 6 := ⟨by decide +kernel, rfl⟩
theorem d14_6 : DAt B14 6 (.getfield 33) 3 9 := ⟨by decide +kernel, rfl⟩
theorem d14_9 : DAt B14 9 (.if_icmp .ge 7) 3 12 := ⟨by decide +kernel, rfl⟩
theorem d14_12 : DAt B14 12 (.iconst 1) 1 13 := ⟨by decide +kernel, rfl⟩
theorem d14_13 : DAt B14 13 (.goto 4) 3 16 := ⟨by decide +kernel, rfl⟩
theorem d14_16 : DAt B14 16 (.iconst 0) 1 17 := ⟨by decide +kernel, rfl⟩
theorem d14_17 : DAt B14 17 (.ireturn) 1 18 := ⟨by decide +kernel, rfl⟩
def B19 : Bdy := ((⟨"MirrorResync", "markDirty", "(I)V"⟩ : MethodName), prog_1_method_27_code, 2, none, ({ frames := 0, cells := 0, slots := 0, locals := 0 } : Room))
theorem d19_0 : DAt B19 0 (.aload_n 0) 1 1 := ⟨by decide +kernel, rfl⟩
theorem d19_1 : DAt B19 1 (.getfield 19) 3 4 := ⟨by decide +kernel, rfl⟩
theorem d19_4 : DAt B19 4 (.iload_n 1) 1 5 := ⟨by decide +kernel, rfl⟩
theorem d19_5 : DAt B19 5 (.iconst 1) 1 6 := ⟨by decide +kernel, rfl⟩
theorem d19_6 : DAt B19 6 (.bastore) 1 7 := ⟨by decide +kernel, rfl⟩
theorem d19_7 : DAt B19 7 (.aload_n 0) 1 8 := ⟨by decide +kernel, rfl⟩
theorem d19_8 : DAt B19 8 (.getfield 23) 3 11 := ⟨by decide +kernel, rfl⟩
theorem d19_11 : DAt B19 11 (.iload_n 1) 1 12 := ⟨by decide +kernel, rfl⟩
theorem d19_12 : DAt B19 12 (.iconst 0) 1 13 := ⟨by decide +kernel, rfl⟩
theorem d19_13 : DAt B19 13 (.bastore) 1 14 := ⟨by decide +kernel, rfl⟩
theorem d19_14 : DAt B19 14 (.aload_n 0) 1 15 := ⟨by decide +kernel, rfl⟩
theorem d19_15 : DAt B19 15 (.getfield 26) 3 18 := ⟨by decide +kernel, rfl⟩
theorem d19_18 : DAt B19 18 (.iload_n 1) 1 19 := ⟨by decide +kernel, rfl⟩
theorem d19_19 : DAt B19 19 (.iconst 0) 1 20 := ⟨by decide +kernel, rfl⟩
theorem d19_20 : DAt B19 20 (.iastore) 1 21 := ⟨by decide +kernel, rfl⟩
theorem d19_21 : DAt B19 21 (.return_) 1 22 := ⟨by decide +kernel, rfl⟩
def B16 : Bdy := ((⟨"MirrorResync", "write", "(II)I"⟩ : MethodName), prog_1_method_2_code, 3, (some .int), ({ frames := 1, cells := 0, slots := 0, locals := 13 } : Room))
theorem d16_0 : DAt B16 0 (.aload_n 0) 1 1 := ⟨by decide +kernel, rfl⟩
theorem d16_1 : DAt B16 1 (.getfield 46) 3 4 := ⟨by decide +kernel, rfl⟩
theorem d16_4 : DAt B16 4 (.ifCond .eq 5) 3 7 := ⟨by decide +kernel, rfl⟩
theorem d16_7 : DAt B16 7 (.iconst (-1)) 1 8 := ⟨by decide +kernel, rfl⟩
theorem d16_8 : DAt B16 8 (.ireturn) 1 9 := ⟨by decide +kernel, rfl⟩
theorem d16_9 : DAt B16 9 (.aload_n 0) 1 10 := ⟨by decide +kernel, rfl⟩
theorem d16_10 : DAt B16 10 (.iload_n 1) 1 11 := ⟨by decide +kernel, rfl⟩
theorem d16_11 : DAt B16 11 (.invokevirtual 62) 3 14 := ⟨by decide +kernel, rfl⟩
theorem d16_14 : DAt B16 14 (.ifCond .eq 13) 3 17 := ⟨by decide +kernel, rfl⟩
theorem d16_17 : DAt B16 17 (.iload_n 2) 1 18 := ⟨by decide +kernel, rfl⟩
theorem d16_18 : DAt B16 18 (.ifCond .lt 9) 3 21 := ⟨by decide +kernel, rfl⟩
theorem d16_21 : DAt B16 21 (.iload_n 2) 1 22 := ⟨by decide +kernel, rfl⟩
theorem d16_22 : DAt B16 22 (.ldc 66) 2 24 := ⟨by decide +kernel, rfl⟩
theorem d16_24 : DAt B16 24 (.if_icmp .le 6) 3 27 := ⟨by decide +kernel, rfl⟩
theorem d16_27 : DAt B16 27 (.bipush (-2)) 2 29 := ⟨by decide +kernel, rfl⟩
theorem d16_29 : DAt B16 29 (.ireturn) 1 30 := ⟨by decide +kernel, rfl⟩
theorem d16_30 : DAt B16 30 (.aload_n 0) 1 31 := ⟨by decide +kernel, rfl⟩
theorem d16_31 : DAt B16 31 (.getfield 50) 3 34 := ⟨by decide +kernel, rfl⟩
theorem d16_34 : DAt B16 34 (.ifCond .eq 6) 3 37 := ⟨by decide +kernel, rfl⟩
theorem d16_37 : DAt B16 37 (.bipush (-3)) 2 39 := ⟨by decide +kernel, rfl⟩
theorem d16_39 : DAt B16 39 (.ireturn) 1 40 := ⟨by decide +kernel, rfl⟩
theorem d16_40 : DAt B16 40 (.aload_n 0) 1 41 := ⟨by decide +kernel, rfl⟩
theorem d16_41 : DAt B16 41 (.iload_n 1) 1 42 := ⟨by decide +kernel, rfl⟩
theorem d16_42 : DAt B16 42 (.aload_n 0) 1 43 := ⟨by decide +kernel, rfl⟩
theorem d16_43 : DAt B16 43 (.getfield 37) 3 46 := ⟨by decide +kernel, rfl⟩
theorem d16_46 : DAt B16 46 (.idiv) 1 47 := ⟨by decide +kernel, rfl⟩
theorem d16_47 : DAt B16 47 (.invokevirtual 67) 3 50 := ⟨by decide +kernel, rfl⟩
theorem d16_50 : DAt B16 50 (.aload_n 0) 1 51 := ⟨by decide +kernel, rfl⟩
theorem d16_51 : DAt B16 51 (.iconst 1) 1 52 := ⟨by decide +kernel, rfl⟩
theorem d16_52 : DAt B16 52 (.putfield 50) 3 55 := ⟨by decide +kernel, rfl⟩
theorem d16_55 : DAt B16 55 (.aload_n 0) 1 56 := ⟨by decide +kernel, rfl⟩
theorem d16_56 : DAt B16 56 (.iload_n 1) 1 57 := ⟨by decide +kernel, rfl⟩
theorem d16_57 : DAt B16 57 (.putfield 53) 3 60 := ⟨by decide +kernel, rfl⟩
theorem d16_60 : DAt B16 60 (.aload_n 0) 1 61 := ⟨by decide +kernel, rfl⟩
theorem d16_61 : DAt B16 61 (.iload_n 2) 1 62 := ⟨by decide +kernel, rfl⟩
theorem d16_62 : DAt B16 62 (.putfield 56) 3 65 := ⟨by decide +kernel, rfl⟩
theorem d16_65 : DAt B16 65 (.aload_n 0) 1 66 := ⟨by decide +kernel, rfl⟩
theorem d16_66 : DAt B16 66 (.iconst 0) 1 67 := ⟨by decide +kernel, rfl⟩
theorem d16_67 : DAt B16 67 (.putfield 59) 3 70 := ⟨by decide +kernel, rfl⟩
theorem d16_70 : DAt B16 70 (.iconst 0) 1 71 := ⟨by decide +kernel, rfl⟩
theorem d16_71 : DAt B16 71 (.ireturn) 1 72 := ⟨by decide +kernel, rfl⟩
def B4 : Bdy := ((⟨"MirrorResync", "clearPending", "()V"⟩ : MethodName), prog_1_method_23_code, 1, none, ({ frames := 0, cells := 0, slots := 0, locals := 0 } : Room))
theorem d4_0 : DAt B4 0 (.aload_n 0) 1 1 := ⟨by decide +kernel, rfl⟩
theorem d4_1 : DAt B4 1 (.iconst 0) 1 2 := ⟨by decide +kernel, rfl⟩
theorem d4_2 : DAt B4 2 (.putfield 50) 3 5 := ⟨by decide +kernel, rfl⟩
theorem d4_5 : DAt B4 5 (.aload_n 0) 1 6 := ⟨by decide +kernel, rfl⟩
theorem d4_6 : DAt B4 6 (.iconst (-1)) 1 7 := ⟨by decide +kernel, rfl⟩
theorem d4_7 : DAt B4 7 (.putfield 53) 3 10 := ⟨by decide +kernel, rfl⟩
theorem d4_10 : DAt B4 10 (.aload_n 0) 1 11 := ⟨by decide +kernel, rfl⟩
theorem d4_11 : DAt B4 11 (.iconst 0) 1 12 := ⟨by decide +kernel, rfl⟩
theorem d4_12 : DAt B4 12 (.putfield 56) 3 15 := ⟨by decide +kernel, rfl⟩
theorem d4_15 : DAt B4 15 (.aload_n 0) 1 16 := ⟨by decide +kernel, rfl⟩
theorem d4_16 : DAt B4 16 (.iconst (-1)) 1 17 := ⟨by decide +kernel, rfl⟩
theorem d4_17 : DAt B4 17 (.putfield 59) 3 20 := ⟨by decide +kernel, rfl⟩
theorem d4_20 : DAt B4 20 (.return_) 1 21 := ⟨by decide +kernel, rfl⟩
def B3 : Bdy := ((⟨"MirrorResync", "crash", "()I"⟩ : MethodName), prog_1_method_4_code, 1, (some .int), ({ frames := 1, cells := 0, slots := 0, locals := 12 } : Room))
theorem d3_0 : DAt B3 0 (.aload_n 0) 1 1 := ⟨by decide +kernel, rfl⟩
theorem d3_1 : DAt B3 1 (.getfield 46) 3 4 := ⟨by decide +kernel, rfl⟩
theorem d3_4 : DAt B3 4 (.ifCond .eq 5) 3 7 := ⟨by decide +kernel, rfl⟩
theorem d3_7 : DAt B3 7 (.iconst (-1)) 1 8 := ⟨by decide +kernel, rfl⟩
theorem d3_8 : DAt B3 8 (.ireturn) 1 9 := ⟨by decide +kernel, rfl⟩
theorem d3_9 : DAt B3 9 (.aload_n 0) 1 10 := ⟨by decide +kernel, rfl⟩
theorem d3_10 : DAt B3 10 (.invokevirtual 74) 3 13 := ⟨by decide +kernel, rfl⟩
theorem d3_13 : DAt B3 13 (.aload_n 0) 1 14 := ⟨by decide +kernel, rfl⟩
theorem d3_14 : DAt B3 14 (.iconst 1) 1 15 := ⟨by decide +kernel, rfl⟩
theorem d3_15 : DAt B3 15 (.putfield 46) 3 18 := ⟨by decide +kernel, rfl⟩
theorem d3_18 : DAt B3 18 (.iconst 0) 1 19 := ⟨by decide +kernel, rfl⟩
theorem d3_19 : DAt B3 19 (.ireturn) 1 20 := ⟨by decide +kernel, rfl⟩
def B18 : Bdy := ((⟨"MirrorResync", "restart", "()I"⟩ : MethodName), prog_1_method_5_code, 1, (some .int), ({ frames := 0, cells := 0, slots := 0, locals := 0 } : Room))
theorem d18_0 : DAt B18 0 (.aload_n 0) 1 1 := ⟨by decide +kernel, rfl⟩
theorem d18_1 : DAt B18 1 (.getfield 46) 3 4 := ⟨by decide +kernel, rfl⟩
theorem d18_4 : DAt B18 4 (.ifCond .ne 6) 3 7 := ⟨by decide +kernel, rfl⟩
theorem d18_7 : DAt B18 7 (.bipush (-4)) 2 9 := ⟨by decide +kernel, rfl⟩
theorem d18_9 : DAt B18 9 (.ireturn) 1 10 := ⟨by decide +kernel, rfl⟩
theorem d18_10 : DAt B18 10 (.aload_n 0) 1 11 := ⟨by decide +kernel, rfl⟩
theorem d18_11 : DAt B18 11 (.iconst 0) 1 12 := ⟨by decide +kernel, rfl⟩
theorem d18_12 : DAt B18 12 (.putfield 46) 3 15 := ⟨by decide +kernel, rfl⟩
theorem d18_15 : DAt B18 15 (.aload_n 0) 1 16 := ⟨by decide +kernel, rfl⟩
theorem d18_16 : DAt B18 16 (.getfield 16) 3 19 := ⟨by decide +kernel, rfl⟩
theorem d18_19 : DAt B18 19 (.iconst 0) 1 20 := ⟨by decide +kernel, rfl⟩
theorem d18_20 : DAt B18 20 (.iaload) 1 21 := ⟨by decide +kernel, rfl⟩
theorem d18_21 : DAt B18 21 (.ifCond .ne 19) 3 24 := ⟨by decide +kernel, rfl⟩
theorem d18_24 : DAt B18 24 (.aload_n 0) 1 25 := ⟨by decide +kernel, rfl⟩
theorem d18_25 : DAt B18 25 (.getfield 16) 3 28 := ⟨by decide +kernel, rfl⟩
theorem d18_28 : DAt B18 28 (.iconst 1) 1 29 := ⟨by decide +kernel, rfl⟩
theorem d18_29 : DAt B18 29 (.iaload) 1 30 := ⟨by decide +kernel, rfl⟩
theorem d18_30 : DAt B18 30 (.ifCond .ne 10) 3 33 := ⟨by decide +kernel, rfl⟩
theorem d18_33 : DAt B18 33 (.aload_n 0) 1 34 := ⟨by decide +kernel, rfl⟩
theorem d18_34 : DAt B18 34 (.getfield 16) 3 37 := ⟨by decide +kernel, rfl⟩
theorem d18_37 : DAt B18 37 (.iconst 1) 1 38 := ⟨by decide +kernel, rfl⟩
theorem d18_38 : DAt B18 38 (.iconst 1) 1 39 := ⟨by decide +kernel, rfl⟩
theorem d18_39 : DAt B18 39 (.iastore) 1 40 := ⟨by decide +kernel, rfl⟩
theorem d18_40 : DAt B18 40 (.iconst 0) 1 41 := ⟨by decide +kernel, rfl⟩
theorem d18_41 : DAt B18 41 (.ireturn) 1 42 := ⟨by decide +kernel, rfl⟩
def B7 : Bdy := ((⟨"MirrorResync", "validLeg", "(I)Z"⟩ : MethodName), prog_1_method_19_code, 2, (some .boolean), ({ frames := 0, cells := 0, slots := 0, locals := 0 } : Room))
theorem d7_0 : DAt B7 0 (.iload_n 1) 1 1 := ⟨by decide +kernel, rfl⟩
theorem d7_1 : DAt B7 1 (.ifCond .eq 8) 3 4 := ⟨by decide +kernel, rfl⟩
theorem d7_4 : DAt B7 4 (.iload_n 1) 1 5 := ⟨by decide +kernel, rfl⟩
theorem d7_5 : DAt B7 5 (.iconst 1) 1 6 := ⟨by decide +kernel, rfl⟩
theorem d7_6 : DAt B7 6 (.if_icmp .ne 7) 3 9 := ⟨by decide +kernel, rfl⟩
theorem d7_9 : DAt B7 9 (.iconst 1) 1 10 := ⟨by decide +kernel, rfl⟩
theorem d7_10 : DAt B7 10 (.goto 4) 3 13 := ⟨by decide +kernel, rfl⟩
theorem d7_13 : DAt B7 13 (.iconst 0) 1 14 := ⟨by decide +kernel, rfl⟩
theorem d7_14 : DAt B7 14 (.ireturn) 1 15 := ⟨by decide +kernel, rfl⟩
def B17 : Bdy := ((⟨"MirrorResync", "failLeg", "(I)I"⟩ : MethodName), prog_1_method_6_code, 2, (some .int), ({ frames := 1, cells := 0, slots := 0, locals := 13 } : Room))
theorem d17_0 : DAt B17 0 (.aload_n 0) 1 1 := ⟨by decide +kernel, rfl⟩
theorem d17_1 : DAt B17 1 (.getfield 46) 3 4 := ⟨by decide +kernel, rfl⟩
theorem d17_4 : DAt B17 4 (.ifCond .eq 5) 3 7 := ⟨by decide +kernel, rfl⟩
theorem d17_7 : DAt B17 7 (.iconst (-1)) 1 8 := ⟨by decide +kernel, rfl⟩
theorem d17_8 : DAt B17 8 (.ireturn) 1 9 := ⟨by decide +kernel, rfl⟩
theorem d17_9 : DAt B17 9 (.aload_n 0) 1 10 := ⟨by decide +kernel, rfl⟩
theorem d17_10 : DAt B17 10 (.iload_n 1) 1 11 := ⟨by decide +kernel, rfl⟩
theorem d17_11 : DAt B17 11 (.invokevirtual 77) 3 14 := ⟨by decide +kernel, rfl⟩
theorem d17_14 : DAt B17 14 (.ifCond .ne 6) 3 17 := ⟨by decide +kernel, rfl⟩
theorem d17_17 : DAt B17 17 (.bipush (-2)) 2 19 := ⟨by decide +kernel, rfl⟩
theorem d17_19 : DAt B17 19 (.ireturn) 1 20 := ⟨by decide +kernel, rfl⟩
theorem d17_20 : DAt B17 20 (.aload_n 0) 1 21 := ⟨by decide +kernel, rfl⟩
theorem d17_21 : DAt B17 21 (.getfield 16) 3 24 := ⟨by decide +kernel, rfl⟩
theorem d17_24 : DAt B17 24 (.iload_n 1) 1 25 := ⟨by decide +kernel, rfl⟩
theorem d17_25 : DAt B17 25 (.iaload) 1 26 := ⟨by decide +kernel, rfl⟩
theorem d17_26 : DAt B17 26 (.iconst 2) 1 27 := ⟨by decide +kernel, rfl⟩
theorem d17_27 : DAt B17 27 (.if_icmp .ne 6) 3 30 := ⟨by decide +kernel, rfl⟩
theorem d17_30 : DAt B17 30 (.bipush (-4)) 2 32 := ⟨by decide +kernel, rfl⟩
theorem d17_32 : DAt B17 32 (.ireturn) 1 33 := ⟨by decide +kernel, rfl⟩
theorem d17_33 : DAt B17 33 (.aload_n 0) 1 34 := ⟨by decide +kernel, rfl⟩
theorem d17_34 : DAt B17 34 (.getfield 16) 3 37 := ⟨by decide +kernel, rfl⟩
theorem d17_37 : DAt B17 37 (.iconst 1) 1 38 := ⟨by decide +kernel, rfl⟩
theorem d17_38 : DAt B17 38 (.iload_n 1) 1 39 := ⟨by decide +kernel, rfl⟩
theorem d17_39 : DAt B17 39 (.isub) 1 40 := ⟨by decide +kernel, rfl⟩
theorem d17_40 : DAt B17 40 (.iaload) 1 41 := ⟨by decide +kernel, rfl⟩
theorem d17_41 : DAt B17 41 (.ifCond .eq 6) 3 44 := ⟨by decide +kernel, rfl⟩
theorem d17_44 : DAt B17 44 (.bipush (-4)) 2 46 := ⟨by decide +kernel, rfl⟩
theorem d17_46 : DAt B17 46 (.ireturn) 1 47 := ⟨by decide +kernel, rfl⟩
theorem d17_47 : DAt B17 47 (.aload_n 0) 1 48 := ⟨by decide +kernel, rfl⟩
theorem d17_48 : DAt B17 48 (.getfield 16) 3 51 := ⟨by decide +kernel, rfl⟩
theorem d17_51 : DAt B17 51 (.iload_n 1) 1 52 := ⟨by decide +kernel, rfl⟩
theorem d17_52 : DAt B17 52 (.iconst 2) 1 53 := ⟨by decide +kernel, rfl⟩
theorem d17_53 : DAt B17 53 (.iastore) 1 54 := ⟨by decide +kernel, rfl⟩
theorem d17_54 : DAt B17 54 (.iconst 0) 1 55 := ⟨by decide +kernel, rfl⟩
theorem d17_55 : DAt B17 55 (.ireturn) 1 56 := ⟨by decide +kernel, rfl⟩
def B22 : Bdy := ((⟨"MirrorResync", "checkDetached", "(I)I"⟩ : MethodName), prog_1_method_21_code, 2, (some .int), ({ frames := 1, cells := 0, slots := 0, locals := 13 } : Room))
theorem d22_0 : DAt B22 0 (.aload_n 0) 1 1 := ⟨by decide +kernel, rfl⟩
theorem d22_1 : DAt B22 1 (.getfield 46) 3 4 := ⟨by decide +kernel, rfl⟩
theorem d22_4 : DAt B22 4 (.ifCond .eq 5) 3 7 := ⟨by decide +kernel, rfl⟩
theorem d22_7 : DAt B22 7 (.iconst (-1)) 1 8 := ⟨by decide +kernel, rfl⟩
theorem d22_8 : DAt B22 8 (.ireturn) 1 9 := ⟨by decide +kernel, rfl⟩
theorem d22_9 : DAt B22 9 (.aload_n 0) 1 10 := ⟨by decide +kernel, rfl⟩
theorem d22_10 : DAt B22 10 (.iload_n 1) 1 11 := ⟨by decide +kernel, rfl⟩
theorem d22_11 : DAt B22 11 (.invokevirtual 77) 3 14 := ⟨by decide +kernel, rfl⟩
theorem d22_14 : DAt B22 14 (.ifCond .ne 6) 3 17 := ⟨by decide +kernel, rfl⟩
theorem d22_17 : DAt B22 17 (.bipush (-2)) 2 19 := ⟨by decide +kernel, rfl⟩
theorem d22_19 : DAt B22 19 (.ireturn) 1 20 := ⟨by decide +kernel, rfl⟩
theorem d22_20 : DAt B22 20 (.aload_n 0) 1 21 := ⟨by decide +kernel, rfl⟩
theorem d22_21 : DAt B22 21 (.getfield 50) 3 24 := ⟨by decide +kernel, rfl⟩
theorem d22_24 : DAt B22 24 (.ifCond .eq 6) 3 27 := ⟨by decide +kernel, rfl⟩
theorem d22_27 : DAt B22 27 (.bipush (-3)) 2 29 := ⟨by decide +kernel, rfl⟩
theorem d22_29 : DAt B22 29 (.ireturn) 1 30 := ⟨by decide +kernel, rfl⟩
theorem d22_30 : DAt B22 30 (.aload_n 0) 1 31 := ⟨by decide +kernel, rfl⟩
theorem d22_31 : DAt B22 31 (.getfield 16) 3 34 := ⟨by decide +kernel, rfl⟩
theorem d22_34 : DAt B22 34 (.iload_n 1) 1 35 := ⟨by decide +kernel, rfl⟩
theorem d22_35 : DAt B22 35 (.iaload) 1 36 := ⟨by decide +kernel, rfl⟩
theorem d22_36 : DAt B22 36 (.iconst 2) 1 37 := ⟨by decide +kernel, rfl⟩
theorem d22_37 : DAt B22 37 (.if_icmp .eq 6) 3 40 := ⟨by decide +kernel, rfl⟩
theorem d22_40 : DAt B22 40 (.bipush (-4)) 2 42 := ⟨by decide +kernel, rfl⟩
theorem d22_42 : DAt B22 42 (.ireturn) 1 43 := ⟨by decide +kernel, rfl⟩
theorem d22_43 : DAt B22 43 (.iconst 0) 1 44 := ⟨by decide +kernel, rfl⟩
theorem d22_44 : DAt B22 44 (.ireturn) 1 45 := ⟨by decide +kernel, rfl⟩
def B21 : Bdy := ((⟨"MirrorResync", "reattachLeg", "(I)I"⟩ : MethodName), prog_1_method_7_code, 3, (some .int), ({ frames := 2, cells := 0, slots := 0, locals := 26 } : Room))
theorem d21_0 : DAt B21 0 (.aload_n 0) 1 1 := ⟨by decide +kernel, rfl⟩
theorem d21_1 : DAt B21 1 (.iload_n 1) 1 2 := ⟨by decide +kernel, rfl⟩
theorem d21_2 : DAt B21 2 (.invokevirtual 80) 3 5 := ⟨by decide +kernel, rfl⟩
theorem d21_5 : DAt B21 5 (.istore_n 2) 1 6 := ⟨by decide +kernel, rfl⟩
theorem d21_6 : DAt B21 6 (.iload_n 2) 1 7 := ⟨by decide +kernel, rfl⟩
theorem d21_7 : DAt B21 7 (.ifCond .eq 5) 3 10 := ⟨by decide +kernel, rfl⟩
theorem d21_10 : DAt B21 10 (.iload_n 2) 1 11 := ⟨by decide +kernel, rfl⟩
theorem d21_11 : DAt B21 11 (.ireturn) 1 12 := ⟨by decide +kernel, rfl⟩
theorem d21_12 : DAt B21 12 (.aload_n 0) 1 13 := ⟨by decide +kernel, rfl⟩
theorem d21_13 : DAt B21 13 (.getfield 16) 3 16 := ⟨by decide +kernel, rfl⟩
theorem d21_16 : DAt B21 16 (.iload_n 1) 1 17 := ⟨by decide +kernel, rfl⟩
theorem d21_17 : DAt B21 17 (.iconst 1) 1 18 := ⟨by decide +kernel, rfl⟩
theorem d21_18 : DAt B21 18 (.iastore) 1 19 := ⟨by decide +kernel, rfl⟩
theorem d21_19 : DAt B21 19 (.iconst 0) 1 20 := ⟨by decide +kernel, rfl⟩
theorem d21_20 : DAt B21 20 (.ireturn) 1 21 := ⟨by decide +kernel, rfl⟩
def B29 : Bdy := ((⟨"MirrorResync", "zeroLeg", "(I)V"⟩ : MethodName), prog_1_method_30_code, 4, none, ({ frames := 0, cells := 0, slots := 0, locals := 0 } : Room))
theorem d29_0 : DAt B29 0 (.iload_n 1) 1 1 := ⟨by decide +kernel, rfl⟩
theorem d29_1 : DAt B29 1 (.bipush 32) 2 3 := ⟨by decide +kernel, rfl⟩
theorem d29_3 : DAt B29 3 (.imul) 1 4 := ⟨by decide +kernel, rfl⟩
theorem d29_4 : DAt B29 4 (.istore_n 2) 1 5 := ⟨by decide +kernel, rfl⟩
theorem d29_5 : DAt B29 5 (.iconst 0) 1 6 := ⟨by decide +kernel, rfl⟩
theorem d29_6 : DAt B29 6 (.istore_n 3) 1 7 := ⟨by decide +kernel, rfl⟩
theorem d29_7 : DAt B29 7 (.iload_n 3) 1 8 := ⟨by decide +kernel, rfl⟩
theorem d29_8 : DAt B29 8 (.aload_n 0) 1 9 := ⟨by decide +kernel, rfl⟩
theorem d29_9 : DAt B29 9 (.getfield 33) 3 12 := ⟨by decide +kernel, rfl⟩
theorem d29_12 : DAt B29 12 (.if_icmp .ge 18) 3 15 := ⟨by decide +kernel, rfl⟩
theorem d29_15 : DAt B29 15 (.aload_n 0) 1 16 := ⟨by decide +kernel, rfl⟩
theorem d29_16 : DAt B29 16 (.getfield 7) 3 19 := ⟨by decide +kernel, rfl⟩
theorem d29_19 : DAt B29 19 (.iload_n 2) 1 20 := ⟨by decide +kernel, rfl⟩
theorem d29_20 : DAt B29 20 (.iload_n 3) 1 21 := ⟨by decide +kernel, rfl⟩
theorem d29_21 : DAt B29 21 (.iadd) 1 22 := ⟨by decide +kernel, rfl⟩
theorem d29_22 : DAt B29 22 (.iconst 0) 1 23 := ⟨by decide +kernel, rfl⟩
theorem d29_23 : DAt B29 23 (.iastore) 1 24 := ⟨by decide +kernel, rfl⟩
theorem d29_24 : DAt B29 24 (.iinc 3 1) 3 27 := ⟨by decide +kernel, rfl⟩
theorem d29_27 : DAt B29 27 (.goto (-20)) 3 30 := ⟨by decide +kernel, rfl⟩
theorem d29_30 : DAt B29 30 (.return_) 1 31 := ⟨by decide +kernel, rfl⟩
def B30 : Bdy := ((⟨"MirrorResync", "markAllDirty", "()V"⟩ : MethodName), prog_1_method_28_code, 2, none, ({ frames := 1, cells := 0, slots := 0, locals := 13 } : Room))
theorem d30_0 : DAt B30 0 (.iconst 0) 1 1 := ⟨by decide +kernel, rfl⟩
theorem d30_1 : DAt B30 1 (.istore_n 1) 1 2 := ⟨by decide +kernel, rfl⟩
theorem d30_2 : DAt B30 2 (.iload_n 1) 1 3 := ⟨by decide +kernel, rfl⟩
theorem d30_3 : DAt B30 3 (.aload_n 0) 1 4 := ⟨by decide +kernel, rfl⟩
theorem d30_4 : DAt B30 4 (.getfield 43) 3 7 := ⟨by decide +kernel, rfl⟩
theorem d30_7 : DAt B30 7 (.if_icmp .ge 14) 3 10 := ⟨by decide +kernel, rfl⟩
theorem d30_10 : DAt B30 10 (.aload_n 0) 1 11 := ⟨by decide +kernel, rfl⟩
theorem d30_11 : DAt B30 11 (.iload_n 1) 1 12 := ⟨by decide +kernel, rfl⟩
theorem d30_12 : DAt B30 12 (.invokevirtual 67) 3 15 := ⟨by decide +kernel, rfl⟩
theorem d30_15 : DAt B30 15 (.iinc 1 1) 3 18 := ⟨by decide +kernel, rfl⟩
theorem d30_18 : DAt B30 18 (.goto (-16)) 3 21 := ⟨by decide +kernel, rfl⟩
theorem d30_21 : DAt B30 21 (.return_) 1 22 := ⟨by decide +kernel, rfl⟩
def B26 : Bdy := ((⟨"MirrorResync", "replaceLeg", "(I)I"⟩ : MethodName), prog_1_method_8_code, 3, (some .int), ({ frames := 2, cells := 0, slots := 0, locals := 26 } : Room))
theorem d26_0 : DAt B26 0 (.aload_n 0) 1 1 := ⟨by decide +kernel, rfl⟩
theorem d26_1 : DAt B26 1 (.iload_n 1) 1 2 := ⟨by decide +kernel, rfl⟩
theorem d26_2 : DAt B26 2 (.invokevirtual 80) 3 5 := ⟨by decide +kernel, rfl⟩
theorem d26_5 : DAt B26 5 (.istore_n 2) 1 6 := ⟨by decide +kernel, rfl⟩
theorem d26_6 : DAt B26 6 (.iload_n 2) 1 7 := ⟨by decide +kernel, rfl⟩
theorem d26_7 : DAt B26 7 (.ifCond .eq 5) 3 10 := ⟨by decide +kernel, rfl⟩
theorem d26_10 : DAt B26 10 (.iload_n 2) 1 11 := ⟨by decide +kernel, rfl⟩
theorem d26_11 : DAt B26 11 (.ireturn) 1 12 := ⟨by decide +kernel, rfl⟩
theorem d26_12 : DAt B26 12 (.aload_n 0) 1 13 := ⟨by decide +kernel, rfl⟩
theorem d26_13 : DAt B26 13 (.iload_n 1) 1 14 := ⟨by decide +kernel, rfl⟩
theorem d26_14 : DAt B26 14 (.invokevirtual 84) 3 17 := ⟨by decide +kernel, rfl⟩
theorem d26_17 : DAt B26 17 (.aload_n 0) 1 18 := ⟨by decide +kernel, rfl⟩
theorem d26_18 : DAt B26 18 (.invokevirtual 87) 3 21 := ⟨by decide +kernel, rfl⟩
theorem d26_21 : DAt B26 21 (.aload_n 0) 1 22 := ⟨by decide +kernel, rfl⟩
theorem d26_22 : DAt B26 22 (.getfield 16) 3 25 := ⟨by decide +kernel, rfl⟩
theorem d26_25 : DAt B26 25 (.iload_n 1) 1 26 := ⟨by decide +kernel, rfl⟩
theorem d26_26 : DAt B26 26 (.iconst 1) 1 27 := ⟨by decide +kernel, rfl⟩
theorem d26_27 : DAt B26 27 (.iastore) 1 28 := ⟨by decide +kernel, rfl⟩
theorem d26_28 : DAt B26 28 (.iconst 0) 1 29 := ⟨by decide +kernel, rfl⟩
theorem d26_29 : DAt B26 29 (.ireturn) 1 30 := ⟨by decide +kernel, rfl⟩
def B25 : Bdy := ((⟨"MirrorResync", "staleLeg", "()I"⟩ : MethodName), prog_1_method_22_code, 1, (some .int), ({ frames := 0, cells := 0, slots := 0, locals := 0 } : Room))
theorem d25_0 : DAt B25 0 (.aload_n 0) 1 1 := ⟨by decide +kernel, rfl⟩
theorem d25_1 : DAt B25 1 (.getfield 16) 3 4 := ⟨by decide +kernel, rfl⟩
theorem d25_4 : DAt B25 4 (.iconst 0) 1 5 := ⟨by decide +kernel, rfl⟩
theorem d25_5 : DAt B25 5 (.iaload) 1 6 := ⟨by decide +kernel, rfl⟩
theorem d25_6 : DAt B25 6 (.iconst 1) 1 7 := ⟨by decide +kernel, rfl⟩
theorem d25_7 : DAt B25 7 (.if_icmp .ne 5) 3 10 := ⟨by decide +kernel, rfl⟩
theorem d25_10 : DAt B25 10 (.iconst 0) 1 11 := ⟨by decide +kernel, rfl⟩
theorem d25_11 : DAt B25 11 (.ireturn) 1 12 := ⟨by decide +kernel, rfl⟩
theorem d25_12 : DAt B25 12 (.aload_n 0) 1 13 := ⟨by decide +kernel, rfl⟩
theorem d25_13 : DAt B25 13 (.getfield 16) 3 16 := ⟨by decide +kernel, rfl⟩
theorem d25_16 : DAt B25 16 (.iconst 1) 1 17 := ⟨by decide +kernel, rfl⟩
theorem d25_17 : DAt B25 17 (.iaload) 1 18 := ⟨by decide +kernel, rfl⟩
theorem d25_18 : DAt B25 18 (.iconst 1) 1 19 := ⟨by decide +kernel, rfl⟩
theorem d25_19 : DAt B25 19 (.if_icmp .ne 5) 3 22 := ⟨by decide +kernel, rfl⟩
theorem d25_22 : DAt B25 22 (.iconst 1) 1 23 := ⟨by decide +kernel, rfl⟩
theorem d25_23 : DAt B25 23 (.ireturn) 1 24 := ⟨by decide +kernel, rfl⟩
theorem d25_24 : DAt B25 24 (.iconst (-1)) 1 25 := ⟨by decide +kernel, rfl⟩
theorem d25_25 : DAt B25 25 (.ireturn) 1 26 := ⟨by decide +kernel, rfl⟩
def B27 : Bdy := ((⟨"MirrorResync", "copyDirtyRegions", "(II)V"⟩ : MethodName), prog_1_method_31_code, 9, none, ({ frames := 0, cells := 0, slots := 0, locals := 0 } : Room))
theorem d27_0 : DAt B27 0 (.iload_n 1) 1 1 := ⟨by decide +kernel, rfl⟩
theorem d27_1 : DAt B27 1 (.bipush 32) 2 3 := ⟨by decide +kernel, rfl⟩
theorem d27_3 : DAt B27 3 (.imul) 1 4 := ⟨by decide +kernel, rfl⟩
theorem d27_4 : DAt B27 4 (.istore_n 3) 1 5 := ⟨by decide +kernel, rfl⟩
theorem d27_5 : DAt B27 5 (.iload_n 2) 1 6 := ⟨by decide +kernel, rfl⟩
theorem d27_6 : DAt B27 6 (.bipush 32) 2 8 := ⟨by decide +kernel, rfl⟩
theorem d27_8 : DAt B27 8 (.imul) 1 9 := ⟨by decide +kernel, rfl⟩
theorem d27_9 : DAt B27 9 (.istore 4) 2 11 := ⟨by decide +kernel, rfl⟩
theorem d27_11 : DAt B27 11 (.iconst 0) 1 12 := ⟨by decide +kernel, rfl⟩
theorem d27_12 : DAt B27 12 (.istore 5) 2 14 := ⟨by decide +kernel, rfl⟩
theorem d27_14 : DAt B27 14 (.iload 5) 2 16 := ⟨by decide +kernel, rfl⟩
theorem d27_16 : DAt B27 16 (.aload_n 0) 1 17 := ⟨by decide +kernel, rfl⟩
theorem d27_17 : DAt B27 17 (.getfield 43) 3 20 := ⟨by decide +kernel, rfl⟩
theorem d27_20 : DAt B27 20 (.if_icmp .ge 91) 3 23 := ⟨by decide +kernel, rfl⟩
theorem d27_23 : DAt B27 23 (.aload_n 0) 1 24 := ⟨by decide +kernel, rfl⟩
theorem d27_24 : DAt B27 24 (.getfield 19) 3 27 := ⟨by decide +kernel, rfl⟩
theorem d27_27 : DAt B27 27 (.iload 5) 2 29 := ⟨by decide +kernel, rfl⟩
theorem d27_29 : DAt B27 29 (.baload) 1 30 := ⟨by decide +kernel, rfl⟩
theorem d27_30 : DAt B27 30 (.ifCond .ne 6) 3 33 := ⟨by decide +kernel, rfl⟩
theorem d27_33 : DAt B27 33 (.goto 72) 3 36 := ⟨by decide +kernel, rfl⟩
theorem d27_36 : DAt B27 36 (.iload 5) 2 38 := ⟨by decide +kernel, rfl⟩
theorem d27_38 : DAt B27 38 (.aload_n 0) 1 39 := ⟨by decide +kernel, rfl⟩
theorem d27_39 : DAt B27 39 (.getfield 37) 3 42 := ⟨by decide +kernel, rfl⟩
theorem d27_42 : DAt B27 42 (.imul) 1 43 := ⟨by decide +kernel, rfl⟩
theorem d27_43 : DAt B27 43 (.istore 6) 2 45 := ⟨by decide +kernel, rfl⟩
theorem d27_45 : DAt B27 45 (.iload 6) 2 47 := ⟨by decide +kernel, rfl⟩
theorem d27_47 : DAt B27 47 (.aload_n 0) 1 48 := ⟨by decide +kernel, rfl⟩
theorem d27_48 : DAt B27 48 (.getfield 37) 3 51 := ⟨by decide +kernel, rfl⟩
theorem d27_51 : DAt B27 51 (.iadd) 1 52 := ⟨by decide +kernel, rfl⟩
theorem d27_52 : DAt B27 52 (.istore 7) 2 54 := ⟨by decide +kernel, rfl⟩
theorem d27_54 : DAt B27 54 (.iload 7) 2 56 := ⟨by decide +kernel, rfl⟩
theorem d27_56 : DAt B27 56 (.aload_n 0) 1 57 := ⟨by decide +kernel, rfl⟩
theorem d27_57 : DAt B27 57 (.getfield 33) 3 60 := ⟨by decide +kernel, rfl⟩
theorem d27_60 : DAt B27 60 (.if_icmp .le 9) 3 63 := ⟨by decide +kernel, rfl⟩
theorem d27_63 : DAt B27 63 (.aload_n 0) 1 64 := ⟨by decide +kernel, rfl⟩
theorem d27_64 : DAt B27 64 (.getfield 33) 3 67 := ⟨by decide +kernel, rfl⟩
theorem d27_67 : DAt B27 67 (.istore 7) 2 69 := ⟨by decide +kernel, rfl⟩
theorem d27_69 : DAt B27 69 (.iload 6) 2 71 := ⟨by decide +kernel, rfl⟩
theorem d27_71 : DAt B27 71 (.istore 8) 2 73 := ⟨by decide +kernel, rfl⟩
theorem d27_73 : DAt B27 73 (.iload 8) 2 75 := ⟨by decide +kernel, rfl⟩
theorem d27_75 : DAt B27 75 (.iload 7) 2 77 := ⟨by decide +kernel, rfl⟩
theorem d27_77 : DAt B27 77 (.if_icmp .ge 28) 3 80 := ⟨by decide +kernel, rfl⟩
theorem d27_80 : DAt B27 80 (.aload_n 0) 1 81 := ⟨by decide +kernel, rfl⟩
theorem d27_81 : DAt B27 81 (.getfield 7) 3 84 := ⟨by decide +kernel, rfl⟩
theorem d27_84 : DAt B27 84 (.iload 4) 2 86 := ⟨by decide +kernel, rfl⟩
theorem d27_86 : DAt B27 86 (.iload 8) 2 88 := ⟨by decide +kernel, rfl⟩
theorem d27_88 : DAt B27 88 (.iadd) 1 89 := ⟨by decide +kernel, rfl⟩
theorem d27_89 : DAt B27 89 (.aload_n 0) 1 90 := ⟨by decide +kernel, rfl⟩
theorem d27_90 : DAt B27 90 (.getfield 7) 3 93 := ⟨by decide +kernel, rfl⟩
theorem d27_93 : DAt B27 93 (.iload_n 3) 1 94 := ⟨by decide +kernel, rfl⟩
theorem d27_94 : DAt B27 94 (.iload 8) 2 96 := ⟨by decide +kernel, rfl⟩
theorem d27_96 : DAt B27 96 (.iadd) 1 97 := ⟨by decide +kernel, rfl⟩
theorem d27_97 : DAt B27 97 (.iaload) 1 98 := ⟨by decide +kernel, rfl⟩
theorem d27_98 : DAt B27 98 (.iastore) 1 99 := ⟨by decide +kernel, rfl⟩
theorem d27_99 : DAt B27 99 (.iinc 8 1) 3 102 := ⟨by decide +kernel, rfl⟩
theorem d27_102 : DAt B27 102 (.goto (-29)) 3 105 := ⟨by decide +kernel, rfl⟩
theorem d27_105 : DAt B27 105 (.iinc 5 1) 3 108 := ⟨by decide +kernel, rfl⟩
theorem d27_108 : DAt B27 108 (.goto (-94)) 3 111 := ⟨by decide +kernel, rfl⟩
theorem d27_111 : DAt B27 111 (.return_) 1 112 := ⟨by decide +kernel, rfl⟩
def B28 : Bdy := ((⟨"MirrorResync", "clearBitmap", "()V"⟩ : MethodName), prog_1_method_29_code, 2, none, ({ frames := 0, cells := 0, slots := 0, locals := 0 } : Room))
theorem d28_0 : DAt B28 0 (.iconst 0) 1 1 := ⟨by decide +kernel, rfl⟩
theorem d28_1 : DAt B28 1 (.istore_n 1) 1 2 := ⟨by decide +kernel, rfl⟩
theorem d28_2 : DAt B28 2 (.iload_n 1) 1 3 := ⟨by decide +kernel, rfl⟩
theorem d28_3 : DAt B28 3 (.bipush 32) 2 5 := ⟨by decide +kernel, rfl⟩
theorem d28_5 : DAt B28 5 (.if_icmp .ge 30) 3 8 := ⟨by decide +kernel, rfl⟩
theorem d28_8 : DAt B28 8 (.aload_n 0) 1 9 := ⟨by decide +kernel, rfl⟩
theorem d28_9 : DAt B28 9 (.getfield 19) 3 12 := ⟨by decide +kernel, rfl⟩
theorem d28_12 : DAt B28 12 (.iload_n 1) 1 13 := ⟨by decide +kernel, rfl⟩
theorem d28_13 : DAt B28 13 (.iconst 0) 1 14 := ⟨by decide +kernel, rfl⟩
theorem d28_14 : DAt B28 14 (.bastore) 1 15 := ⟨by decide +kernel, rfl⟩
theorem d28_15 : DAt B28 15 (.aload_n 0) 1 16 := ⟨by decide +kernel, rfl⟩
theorem d28_16 : DAt B28 16 (.getfield 23) 3 19 := ⟨by decide +kernel, rfl⟩
theorem d28_19 : DAt B28 19 (.iload_n 1) 1 20 := ⟨by decide +kernel, rfl⟩
theorem d28_20 : DAt B28 20 (.iconst 0) 1 21 := ⟨by decide +kernel, rfl⟩
theorem d28_21 : DAt B28 21 (.bastore) 1 22 := ⟨by decide +kernel, rfl⟩
theorem d28_22 : DAt B28 22 (.aload_n 0) 1 23 := ⟨by decide +kernel, rfl⟩
theorem d28_23 : DAt B28 23 (.getfield 26) 3 26 := ⟨by decide +kernel, rfl⟩
theorem d28_26 : DAt B28 26 (.iload_n 1) 1 27 := ⟨by decide +kernel, rfl⟩
theorem d28_27 : DAt B28 27 (.iconst 0) 1 28 := ⟨by decide +kernel, rfl⟩
theorem d28_28 : DAt B28 28 (.iastore) 1 29 := ⟨by decide +kernel, rfl⟩
theorem d28_29 : DAt B28 29 (.iinc 1 1) 3 32 := ⟨by decide +kernel, rfl⟩
theorem d28_32 : DAt B28 32 (.goto (-30)) 3 35 := ⟨by decide +kernel, rfl⟩
theorem d28_35 : DAt B28 35 (.return_) 1 36 := ⟨by decide +kernel, rfl⟩
def B24 : Bdy := ((⟨"MirrorResync", "resync", "()I"⟩ : MethodName), prog_1_method_9_code, 2, (some .int), ({ frames := 1, cells := 0, slots := 0, locals := 20 } : Room))
theorem d24_0 : DAt B24 0 (.aload_n 0) 1 1 := ⟨by decide +kernel, rfl⟩
theorem d24_1 : DAt B24 1 (.getfield 46) 3 4 := ⟨by decide +kernel, rfl⟩
theorem d24_4 : DAt B24 4 (.ifCond .eq 5) 3 7 := ⟨by decide +kernel, rfl⟩
theorem d24_7 : DAt B24 7 (.iconst (-1)) 1 8 := ⟨by decide +kernel, rfl⟩
theorem d24_8 : DAt B24 8 (.ireturn) 1 9 := ⟨by decide +kernel, rfl⟩
theorem d24_9 : DAt B24 9 (.aload_n 0) 1 10 := ⟨by decide +kernel, rfl⟩
theorem d24_10 : DAt B24 10 (.getfield 50) 3 13 := ⟨by decide +kernel, rfl⟩
theorem d24_13 : DAt B24 13 (.ifCond .eq 6) 3 16 := ⟨by decide +kernel, rfl⟩
theorem d24_16 : DAt B24 16 (.bipush (-3)) 2 18 := ⟨by decide +kernel, rfl⟩
theorem d24_18 : DAt B24 18 (.ireturn) 1 19 := ⟨by decide +kernel, rfl⟩
theorem d24_19 : DAt B24 19 (.aload_n 0) 1 20 := ⟨by decide +kernel, rfl⟩
theorem d24_20 : DAt B24 20 (.invokevirtual 90) 3 23 := ⟨by decide +kernel, rfl⟩
theorem d24_23 : DAt B24 23 (.istore_n 1) 1 24 := ⟨by decide +kernel, rfl⟩
theorem d24_24 : DAt B24 24 (.iload_n 1) 1 25 := ⟨by decide +kernel, rfl⟩
theorem d24_25 : DAt B24 25 (.iconst (-1)) 1 26 := ⟨by decide +kernel, rfl⟩
theorem d24_26 : DAt B24 26 (.if_icmp .ne 6) 3 29 := ⟨by decide +kernel, rfl⟩
theorem d24_29 : DAt B24 29 (.bipush (-4)) 2 31 := ⟨by decide +kernel, rfl⟩
theorem d24_31 : DAt B24 31 (.ireturn) 1 32 := ⟨by decide +kernel, rfl⟩
theorem d24_32 : DAt B24 32 (.aload_n 0) 1 33 := ⟨by decide +kernel, rfl⟩
theorem d24_33 : DAt B24 33 (.iconst 1) 1 34 := ⟨by decide +kernel, rfl⟩
theorem d24_34 : DAt B24 34 (.iload_n 1) 1 35 := ⟨by decide +kernel, rfl⟩
theorem d24_35 : DAt B24 35 (.isub) 1 36 := ⟨by decide +kernel, rfl⟩
theorem d24_36 : DAt B24 36 (.iload_n 1) 1 37 := ⟨by decide +kernel, rfl⟩
theorem d24_37 : DAt B24 37 (.invokevirtual 94) 3 40 := ⟨by decide +kernel, rfl⟩
theorem d24_40 : DAt B24 40 (.aload_n 0) 1 41 := ⟨by decide +kernel, rfl⟩
theorem d24_41 : DAt B24 41 (.invokevirtual 98) 3 44 := ⟨by decide +kernel, rfl⟩
theorem d24_44 : DAt B24 44 (.aload_n 0) 1 45 := ⟨by decide +kernel, rfl⟩
theorem d24_45 : DAt B24 45 (.getfield 16) 3 48 := ⟨by decide +kernel, rfl⟩
theorem d24_48 : DAt B24 48 (.iload_n 1) 1 49 := ⟨by decide +kernel, rfl⟩
theorem d24_49 : DAt B24 49 (.iconst 0) 1 50 := ⟨by decide +kernel, rfl⟩
theorem d24_50 : DAt B24 50 (.iastore) 1 51 := ⟨by decide +kernel, rfl⟩
theorem d24_51 : DAt B24 51 (.iconst 0) 1 52 := ⟨by decide +kernel, rfl⟩
theorem d24_52 : DAt B24 52 (.ireturn) 1 53 := ⟨by decide +kernel, rfl⟩
def B32 : Bdy := ((⟨"MirrorResync", "ageOthers", "(I)V"⟩ : MethodName), prog_1_method_25_code, 3, none, ({ frames := 0, cells := 0, slots := 0, locals := 0 } : Room))
theorem d32_0 : DAt B32 0 (.iconst 0) 1 1 := ⟨by decide +kernel, rfl⟩
theorem d32_1 : DAt B32 1 (.istore_n 2) 1 2 := ⟨by decide +kernel, rfl⟩
theorem d32_2 : DAt B32 2 (.iload_n 2) 1 3 := ⟨by decide +kernel, rfl⟩
theorem d32_3 : DAt B32 3 (.aload_n 0) 1 4 := ⟨by decide +kernel, rfl⟩
theorem d32_4 : DAt B32 4 (.getfield 43) 3 7 := ⟨by decide +kernel, rfl⟩
theorem d32_7 : DAt B32 7 (.if_icmp .ge 46) 3 10 := ⟨by decide +kernel, rfl⟩
theorem d32_10 : DAt B32 10 (.iload_n 2) 1 11 := ⟨by decide +kernel, rfl⟩
theorem d32_11 : DAt B32 11 (.iload_n 1) 1 12 := ⟨by decide +kernel, rfl⟩
theorem d32_12 : DAt B32 12 (.if_icmp .eq 35) 3 15 := ⟨by decide +kernel, rfl⟩
theorem d32_15 : DAt B32 15 (.aload_n 0) 1 16 := ⟨by decide +kernel, rfl⟩
theorem d32_16 : DAt B32 16 (.getfield 23) 3 19 := ⟨by decide +kernel, rfl⟩
theorem d32_19 : DAt B32 19 (.iload_n 2) 1 20 := ⟨by decide +kernel, rfl⟩
theorem d32_20 : DAt B32 20 (.baload) 1 21 := ⟨by decide +kernel, rfl⟩
theorem d32_21 : DAt B32 21 (.ifCond .eq 26) 3 24 := ⟨by decide +kernel, rfl⟩
theorem d32_24 : DAt B32 24 (.aload_n 0) 1 25 := ⟨by decide +kernel, rfl⟩
theorem d32_25 : DAt B32 25 (.getfield 26) 3 28 := ⟨by decide +kernel, rfl⟩
theorem d32_28 : DAt B32 28 (.iload_n 2) 1 29 := ⟨by decide +kernel, rfl⟩
theorem d32_29 : DAt B32 29 (.iaload) 1 30 := ⟨by decide +kernel, rfl⟩
theorem d32_30 : DAt B32 30 (.aload_n 0) 1 31 := ⟨by decide +kernel, rfl⟩
theorem d32_31 : DAt B32 31 (.getfield 40) 3 34 := ⟨by decide +kernel, rfl⟩
theorem d32_34 : DAt B32 34 (.if_icmp .ge 13) 3 37 := ⟨by decide +kernel, rfl⟩
theorem d32_37 : DAt B32 37 (.aload_n 0) 1 38 := ⟨by decide +kernel, rfl⟩
theorem d32_38 : DAt B32 38 (.getfield 26) 3 41 := ⟨by decide +kernel, rfl⟩
theorem d32_41 : DAt B32 41 (.iload_n 2) 1 42 := ⟨by decide +kernel, rfl⟩
theorem d32_42 : DAt B32 42 (.dup2) 1 43 := ⟨by decide +kernel, rfl⟩
theorem d32_43 : DAt B32 43 (.iaload) 1 44 := ⟨by decide +kernel, rfl⟩
theorem d32_44 : DAt B32 44 (.iconst 1) 1 45 := ⟨by decide +kernel, rfl⟩
theorem d32_45 : DAt B32 45 (.iadd) 1 46 := ⟨by decide +kernel, rfl⟩
theorem d32_46 : DAt B32 46 (.iastore) 1 47 := ⟨by decide +kernel, rfl⟩
theorem d32_47 : DAt B32 47 (.iinc 2 1) 3 50 := ⟨by decide +kernel, rfl⟩
theorem d32_50 : DAt B32 50 (.goto (-48)) 3 53 := ⟨by decide +kernel, rfl⟩
theorem d32_53 : DAt B32 53 (.return_) 1 54 := ⟨by decide +kernel, rfl⟩
def B33 : Bdy := ((⟨"MirrorResync", "bothActive", "()Z"⟩ : MethodName), prog_1_method_20_code, 1, (some .boolean), ({ frames := 0, cells := 0, slots := 0, locals := 0 } : Room))
theorem d33_0 : DAt B33 0 (.aload_n 0) 1 1 := ⟨by decide +kernel, rfl⟩
theorem d33_1 : DAt B33 1 (.getfield 16) 3 4 := ⟨by decide +kernel, rfl⟩
theorem d33_4 : DAt B33 4 (.iconst 0) 1 5 := ⟨by decide +kernel, rfl⟩
theorem d33_5 : DAt B33 5 (.iaload) 1 6 := ⟨by decide +kernel, rfl⟩
theorem d33_6 : DAt B33 6 (.ifCond .ne 16) 3 9 := ⟨by decide +kernel, rfl⟩
theorem d33_9 : DAt B33 9 (.aload_n 0) 1 10 := ⟨by decide +kernel, rfl⟩
theorem d33_10 : DAt B33 10 (.getfield 16) 3 13 := ⟨by decide +kernel, rfl⟩
theorem d33_13 : DAt B33 13 (.iconst 1) 1 14 := ⟨by decide +kernel, rfl⟩
theorem d33_14 : DAt B33 14 (.iaload) 1 15 := ⟨by decide +kernel, rfl⟩
theorem d33_15 : DAt B33 15 (.ifCond .ne 7) 3 18 := ⟨by decide +kernel, rfl⟩
theorem d33_18 : DAt B33 18 (.iconst 1) 1 19 := ⟨by decide +kernel, rfl⟩
theorem d33_19 : DAt B33 19 (.goto 4) 3 22 := ⟨by decide +kernel, rfl⟩
theorem d33_22 : DAt B33 22 (.iconst 0) 1 23 := ⟨by decide +kernel, rfl⟩
theorem d33_23 : DAt B33 23 (.ireturn) 1 24 := ⟨by decide +kernel, rfl⟩
def B34 : Bdy := ((⟨"MirrorResync", "clearAged", "()V"⟩ : MethodName), prog_1_method_26_code, 2, none, ({ frames := 0, cells := 0, slots := 0, locals := 0 } : Room))
theorem d34_0 : DAt B34 0 (.iconst 0) 1 1 := ⟨by decide +kernel, rfl⟩
theorem d34_1 : DAt B34 1 (.istore_n 1) 1 2 := ⟨by decide +kernel, rfl⟩
theorem d34_2 : DAt B34 2 (.iload_n 1) 1 3 := ⟨by decide +kernel, rfl⟩
theorem d34_3 : DAt B34 3 (.aload_n 0) 1 4 := ⟨by decide +kernel, rfl⟩
theorem d34_4 : DAt B34 4 (.getfield 43) 3 7 := ⟨by decide +kernel, rfl⟩
theorem d34_7 : DAt B34 7 (.if_icmp .ge 61) 3 10 := ⟨by decide +kernel, rfl⟩
theorem d34_10 : DAt B34 10 (.aload_n 0) 1 11 := ⟨by decide +kernel, rfl⟩
theorem d34_11 : DAt B34 11 (.getfield 19) 3 14 := ⟨by decide +kernel, rfl⟩
theorem d34_14 : DAt B34 14 (.iload_n 1) 1 15 := ⟨by decide +kernel, rfl⟩
theorem d34_15 : DAt B34 15 (.baload) 1 16 := ⟨by decide +kernel, rfl⟩
theorem d34_16 : DAt B34 16 (.ifCond .eq 46) 3 19 := ⟨by decide +kernel, rfl⟩
theorem d34_19 : DAt B34 19 (.aload_n 0) 1 20 := ⟨by decide +kernel, rfl⟩
theorem d34_20 : DAt B34 20 (.getfield 23) 3 23 := ⟨by decide +kernel, rfl⟩
theorem d34_23 : DAt B34 23 (.iload_n 1) 1 24 := ⟨by decide +kernel, rfl⟩
theorem d34_24 : DAt B34 24 (.baload) 1 25 := ⟨by decide +kernel, rfl⟩
theorem d34_25 : DAt B34 25 (.ifCond .eq 37) 3 28 := ⟨by decide +kernel, rfl⟩
theorem d34_28 : DAt B34 28 (.aload_n 0) 1 29 := ⟨by decide +kernel, rfl⟩
theorem d34_29 : DAt B34 29 (.getfield 26) 3 32 := ⟨by decide +kernel, rfl⟩
theorem d34_32 : DAt B34 32 (.iload_n 1) 1 33 := ⟨by decide +kernel, rfl⟩
theorem d34_33 : DAt B34 33 (.iaload) 1 34 := ⟨by decide +kernel, rfl⟩
theorem d34_34 : DAt B34 34 (.aload_n 0) 1 35 := ⟨by decide +kernel, rfl⟩
theorem d34_35 : DAt B34 35 (.getfield 40) 3 38 := ⟨by decide +kernel, rfl⟩
theorem d34_38 : DAt B34 38 (.if_icmp .lt 24) 3 41 := ⟨by decide +kernel, rfl⟩
theorem d34_41 : DAt B34 41 (.aload_n 0) 1 42 := ⟨by decide +kernel, rfl⟩
theorem d34_42 : DAt B34 42 (.getfield 19) 3 45 := ⟨by decide +kernel, rfl⟩
theorem d34_45 : DAt B34 45 (.iload_n 1) 1 46 := ⟨by decide +kernel, rfl⟩
theorem d34_46 : DAt B34 46 (.iconst 0) 1 47 := ⟨by decide +kernel, rfl⟩
theorem d34_47 : DAt B34 47 (.bastore) 1 48 := ⟨by decide +kernel, rfl⟩
theorem d34_48 : DAt B34 48 (.aload_n 0) 1 49 := ⟨by decide +kernel, rfl⟩
theorem d34_49 : DAt B34 49 (.getfield 23) 3 52 := ⟨by decide +kernel, rfl⟩
theorem d34_52 : DAt B34 52 (.iload_n 1) 1 53 := ⟨by decide +kernel, rfl⟩
theorem d34_53 : DAt B34 53 (.iconst 0) 1 54 := ⟨by decide +kernel, rfl⟩
theorem d34_54 : DAt B34 54 (.bastore) 1 55 := ⟨by decide +kernel, rfl⟩
theorem d34_55 : DAt B34 55 (.aload_n 0) 1 56 := ⟨by decide +kernel, rfl⟩
theorem d34_56 : DAt B34 56 (.getfield 26) 3 59 := ⟨by decide +kernel, rfl⟩
theorem d34_59 : DAt B34 59 (.iload_n 1) 1 60 := ⟨by decide +kernel, rfl⟩
theorem d34_60 : DAt B34 60 (.iconst 0) 1 61 := ⟨by decide +kernel, rfl⟩
theorem d34_61 : DAt B34 61 (.iastore) 1 62 := ⟨by decide +kernel, rfl⟩
theorem d34_62 : DAt B34 62 (.iinc 1 1) 3 65 := ⟨by decide +kernel, rfl⟩
theorem d34_65 : DAt B34 65 (.goto (-63)) 3 68 := ⟨by decide +kernel, rfl⟩
theorem d34_68 : DAt B34 68 (.return_) 1 69 := ⟨by decide +kernel, rfl⟩
def B31 : Bdy := ((⟨"MirrorResync", "acknowledge", "()V"⟩ : MethodName), prog_1_method_24_code, 3, none, ({ frames := 1, cells := 0, slots := 0, locals := 14 } : Room))
theorem d31_0 : DAt B31 0 (.aload_n 0) 1 1 := ⟨by decide +kernel, rfl⟩
theorem d31_1 : DAt B31 1 (.getfield 53) 3 4 := ⟨by decide +kernel, rfl⟩
theorem d31_4 : DAt B31 4 (.istore_n 1) 1 5 := ⟨by decide +kernel, rfl⟩
theorem d31_5 : DAt B31 5 (.aload_n 0) 1 6 := ⟨by decide +kernel, rfl⟩
theorem d31_6 : DAt B31 6 (.getfield 13) 3 9 := ⟨by decide +kernel, rfl⟩
theorem d31_9 : DAt B31 9 (.iload_n 1) 1 10 := ⟨by decide +kernel, rfl⟩
theorem d31_10 : DAt B31 10 (.aload_n 0) 1 11 := ⟨by decide +kernel, rfl⟩
theorem d31_11 : DAt B31 11 (.getfield 56) 3 14 := ⟨by decide +kernel, rfl⟩
theorem d31_14 : DAt B31 14 (.iastore) 1 15 := ⟨by decide +kernel, rfl⟩
theorem d31_15 : DAt B31 15 (.aload_n 0) 1 16 := ⟨by decide +kernel, rfl⟩
theorem d31_16 : DAt B31 16 (.invokevirtual 74) 3 19 := ⟨by decide +kernel, rfl⟩
theorem d31_19 : DAt B31 19 (.iload_n 1) 1 20 := ⟨by decide +kernel, rfl⟩
theorem d31_20 : DAt B31 20 (.aload_n 0) 1 21 := ⟨by decide +kernel, rfl⟩
theorem d31_21 : DAt B31 21 (.getfield 37) 3 24 := ⟨by decide +kernel, rfl⟩
theorem d31_24 : DAt B31 24 (.idiv) 1 25 := ⟨by decide +kernel, rfl⟩
theorem d31_25 : DAt B31 25 (.istore_n 2) 1 26 := ⟨by decide +kernel, rfl⟩
theorem d31_26 : DAt B31 26 (.aload_n 0) 1 27 := ⟨by decide +kernel, rfl⟩
theorem d31_27 : DAt B31 27 (.iload_n 2) 1 28 := ⟨by decide +kernel, rfl⟩
theorem d31_28 : DAt B31 28 (.invokevirtual 101) 3 31 := ⟨by decide +kernel, rfl⟩
theorem d31_31 : DAt B31 31 (.aload_n 0) 1 32 := ⟨by decide +kernel, rfl⟩
theorem d31_32 : DAt B31 32 (.getfield 23) 3 35 := ⟨by decide +kernel, rfl⟩
theorem d31_35 : DAt B31 35 (.iload_n 2) 1 36 := ⟨by decide +kernel, rfl⟩
theorem d31_36 : DAt B31 36 (.iconst 1) 1 37 := ⟨by decide +kernel, rfl⟩
theorem d31_37 : DAt B31 37 (.bastore) 1 38 := ⟨by decide +kernel, rfl⟩
theorem d31_38 : DAt B31 38 (.aload_n 0) 1 39 := ⟨by decide +kernel, rfl⟩
theorem d31_39 : DAt B31 39 (.getfield 26) 3 42 := ⟨by decide +kernel, rfl⟩
theorem d31_42 : DAt B31 42 (.iload_n 2) 1 43 := ⟨by decide +kernel, rfl⟩
theorem d31_43 : DAt B31 43 (.iconst 0) 1 44 := ⟨by decide +kernel, rfl⟩
theorem d31_44 : DAt B31 44 (.iastore) 1 45 := ⟨by decide +kernel, rfl⟩
theorem d31_45 : DAt B31 45 (.aload_n 0) 1 46 := ⟨by decide +kernel, rfl⟩
theorem d31_46 : DAt B31 46 (.invokevirtual 104) 3 49 := ⟨by decide +kernel, rfl⟩
theorem d31_49 : DAt B31 49 (.ifCond .eq 7) 3 52 := ⟨by decide +kernel, rfl⟩
theorem d31_52 : DAt B31 52 (.aload_n 0) 1 53 := ⟨by decide +kernel, rfl⟩
theorem d31_53 : DAt B31 53 (.invokevirtual 108) 3 56 := ⟨by decide +kernel, rfl⟩
theorem d31_56 : DAt B31 56 (.return_) 1 57 := ⟨by decide +kernel, rfl⟩
def B20 : Bdy := ((⟨"MirrorResync", "step", "()I"⟩ : MethodName), prog_1_method_3_code, 2, (some .int), ({ frames := 2, cells := 0, slots := 0, locals := 28 } : Room))
theorem d20_0 : DAt B20 0 (.aload_n 0) 1 1 := ⟨by decide +kernel, rfl⟩
theorem d20_1 : DAt B20 1 (.getfield 46) 3 4 := ⟨by decide +kernel, rfl⟩
theorem d20_4 : DAt B20 4 (.ifCond .eq 5) 3 7 := ⟨by decide +kernel, rfl⟩
theorem d20_7 : DAt B20 7 (.iconst (-1)) 1 8 := ⟨by decide +kernel, rfl⟩
theorem d20_8 : DAt B20 8 (.ireturn) 1 9 := ⟨by decide +kernel, rfl⟩
theorem d20_9 : DAt B20 9 (.aload_n 0) 1 10 := ⟨by decide +kernel, rfl⟩
theorem d20_10 : DAt B20 10 (.getfield 50) 3 13 := ⟨by decide +kernel, rfl⟩
theorem d20_13 : DAt B20 13 (.ifCond .ne 6) 3 16 := ⟨by decide +kernel, rfl⟩
theorem d20_16 : DAt B20 16 (.bipush (-5)) 2 18 := ⟨by decide +kernel, rfl⟩
theorem d20_18 : DAt B20 18 (.ireturn) 1 19 := ⟨by decide +kernel, rfl⟩
theorem d20_19 : DAt B20 19 (.aload_n 0) 1 20 := ⟨by decide +kernel, rfl⟩
theorem d20_20 : DAt B20 20 (.getfield 59) 3 23 := ⟨by decide +kernel, rfl⟩
theorem d20_23 : DAt B20 23 (.iconst 1) 1 24 := ⟨by decide +kernel, rfl⟩
theorem d20_24 : DAt B20 24 (.if_icmp .gt 29) 3 27 := ⟨by decide +kernel, rfl⟩
theorem d20_27 : DAt B20 27 (.aload_n 0) 1 28 := ⟨by decide +kernel, rfl⟩
theorem d20_28 : DAt B20 28 (.getfield 16) 3 31 := ⟨by decide +kernel, rfl⟩
theorem d20_31 : DAt B20 31 (.aload_n 0) 1 32 := ⟨by decide +kernel, rfl⟩
theorem d20_32 : DAt B20 32 (.getfield 59) 3 35 := ⟨by decide +kernel, rfl⟩
theorem d20_35 : DAt B20 35 (.iaload) 1 36 := ⟨by decide +kernel, rfl⟩
theorem d20_36 : DAt B20 36 (.iconst 2) 1 37 := ⟨by decide +kernel, rfl⟩
theorem d20_37 : DAt B20 37 (.if_icmp .ne 16) 3 40 := ⟨by decide +kernel, rfl⟩
theorem d20_40 : DAt B20 40 (.aload_n 0) 1 41 := ⟨by decide +kernel, rfl⟩
theorem d20_41 : DAt B20 41 (.dup) 1 42 := ⟨by decide +kernel, rfl⟩
theorem d20_42 : DAt B20 42 (.getfield 59) 3 45 := ⟨by decide +kernel, rfl⟩
theorem d20_45 : DAt B20 45 (.iconst 1) 1 46 := ⟨by decide +kernel, rfl⟩
theorem d20_46 : DAt B20 46 (.iadd) 1 47 := ⟨by decide +kernel, rfl⟩
theorem d20_47 : DAt B20 47 (.putfield 59) 3 50 := ⟨by decide +kernel, rfl⟩
theorem d20_50 : DAt B20 50 (.goto (-31)) 3 53 := ⟨by decide +kernel, rfl⟩
theorem d20_53 : DAt B20 53 (.aload_n 0) 1 54 := ⟨by decide +kernel, rfl⟩
theorem d20_54 : DAt B20 54 (.getfield 59) 3 57 := ⟨by decide +kernel, rfl⟩
theorem d20_57 : DAt B20 57 (.iconst 1) 1 58 := ⟨by decide +kernel, rfl⟩
theorem d20_58 : DAt B20 58 (.if_icmp .gt 46) 3 61 := ⟨by decide +kernel, rfl⟩
theorem d20_61 : DAt B20 61 (.aload_n 0) 1 62 := ⟨by decide +kernel, rfl⟩
theorem d20_62 : DAt B20 62 (.getfield 59) 3 65 := ⟨by decide +kernel, rfl⟩
theorem d20_65 : DAt B20 65 (.istore_n 1) 1 66 := ⟨by decide +kernel, rfl⟩
theorem d20_66 : DAt B20 66 (.aload_n 0) 1 67 := ⟨by decide +kernel, rfl⟩
theorem d20_67 : DAt B20 67 (.getfield 7) 3 70 := ⟨by decide +kernel, rfl⟩
theorem d20_70 : DAt B20 70 (.iload_n 1) 1 71 := ⟨by decide +kernel, rfl⟩
theorem d20_71 : DAt B20 71 (.bipush 32) 2 73 := ⟨by decide +kernel, rfl⟩
theorem d20_73 : DAt B20 73 (.imul) 1 74 := ⟨by decide +kernel, rfl⟩
theorem d20_74 : DAt B20 74 (.aload_n 0) 1 75 := ⟨by decide +kernel, rfl⟩
theorem d20_75 : DAt B20 75 (.getfield 53) 3 78 := ⟨by decide +kernel, rfl⟩
theorem d20_78 : DAt B20 78 (.iadd) 1 79 := ⟨by decide +kernel, rfl⟩
theorem d20_79 : DAt B20 79 (.aload_n 0) 1 80 := ⟨by decide +kernel, rfl⟩
theorem d20_80 : DAt B20 80 (.getfield 56) 3 83 := ⟨by decide +kernel, rfl⟩
theorem d20_83 : DAt B20 83 (.iastore) 1 84 := ⟨by decide +kernel, rfl⟩
theorem d20_84 : DAt B20 84 (.aload_n 0) 1 85 := ⟨by decide +kernel, rfl⟩
theorem d20_85 : DAt B20 85 (.dup) 1 86 := ⟨by decide +kernel, rfl⟩
theorem d20_86 : DAt B20 86 (.getfield 59) 3 89 := ⟨by decide +kernel, rfl⟩
theorem d20_89 : DAt B20 89 (.iconst 1) 1 90 := ⟨by decide +kernel, rfl⟩
theorem d20_90 : DAt B20 90 (.iadd) 1 91 := ⟨by decide +kernel, rfl⟩
theorem d20_91 : DAt B20 91 (.putfield 59) 3 94 := ⟨by decide +kernel, rfl⟩
theorem d20_94 : DAt B20 94 (.iload_n 1) 1 95 := ⟨by decide +kernel, rfl⟩
theorem d20_95 : DAt B20 95 (.ifCond .ne 7) 3 98 := ⟨by decide +kernel, rfl⟩
theorem d20_98 : DAt B20 98 (.iconst 1) 1 99 := ⟨by decide +kernel, rfl⟩
theorem d20_99 : DAt B20 99 (.goto 4) 3 102 := ⟨by decide +kernel, rfl⟩
theorem d20_102 : DAt B20 102 (.iconst 2) 1 103 := ⟨by decide +kernel, rfl⟩
theorem d20_103 : DAt B20 103 (.ireturn) 1 104 := ⟨by decide +kernel, rfl⟩
theorem d20_104 : DAt B20 104 (.aload_n 0) 1 105 := ⟨by decide +kernel, rfl⟩
theorem d20_105 : DAt B20 105 (.invokevirtual 71) 3 108 := ⟨by decide +kernel, rfl⟩
theorem d20_108 : DAt B20 108 (.iconst 3) 1 109 := ⟨by decide +kernel, rfl⟩
theorem d20_109 : DAt B20 109 (.ireturn) 1 110 := ⟨by decide +kernel, rfl⟩
def B23 : Bdy := ((⟨"MirrorResyncL6", "put", "(JII)J"⟩ : MethodName), method_3_code, 4, (some .long), ({ frames := 0, cells := 0, slots := 0, locals := 0 } : Room))
theorem d23_0 : DAt B23 0 (.lload_n 0) 1 1 := ⟨by decide +kernel, rfl⟩
theorem d23_1 : DAt B23 1 (.ldc2_w 7) 3 4 := ⟨by decide +kernel, rfl⟩
theorem d23_4 : DAt B23 4 (.iconst 5) 1 5 := ⟨by decide +kernel, rfl⟩
theorem d23_5 : DAt B23 5 (.iload_n 2) 1 6 := ⟨by decide +kernel, rfl⟩
theorem d23_6 : DAt B23 6 (.imul) 1 7 := ⟨by decide +kernel, rfl⟩
theorem d23_7 : DAt B23 7 (.lshl) 1 8 := ⟨by decide +kernel, rfl⟩
theorem d23_8 : DAt B23 8 (.ldc2_w 9) 3 11 := ⟨by decide +kernel, rfl⟩
theorem d23_11 : DAt B23 11 (.lxor) 1 12 := ⟨by decide +kernel, rfl⟩
theorem d23_12 : DAt B23 12 (.land) 1 13 := ⟨by decide +kernel, rfl⟩
theorem d23_13 : DAt B23 13 (.iload_n 3) 1 14 := ⟨by decide +kernel, rfl⟩
theorem d23_14 : DAt B23 14 (.i2l) 1 15 := ⟨by decide +kernel, rfl⟩
theorem d23_15 : DAt B23 15 (.iconst 5) 1 16 := ⟨by decide +kernel, rfl⟩
theorem d23_16 : DAt B23 16 (.iload_n 2) 1 17 := ⟨by decide +kernel, rfl⟩
theorem d23_17 : DAt B23 17 (.imul) 1 18 := ⟨by decide +kernel, rfl⟩
theorem d23_18 : DAt B23 18 (.lshl) 1 19 := ⟨by decide +kernel, rfl⟩
theorem d23_19 : DAt B23 19 (.lor) 1 20 := ⟨by decide +kernel, rfl⟩
theorem d23_20 : DAt B23 20 (.lreturn) 1 21 := ⟨by decide +kernel, rfl⟩
def B6 : Bdy := ((⟨"MirrorResync", "legState", "(I)I"⟩ : MethodName), prog_1_method_12_code, 2, (some .int), ({ frames := 1, cells := 0, slots := 0, locals := 13 } : Room))
theorem d6_0 : DAt B6 0 (.aload_n 0) 1 1 := ⟨by decide +kernel, rfl⟩
theorem d6_1 : DAt B6 1 (.iload_n 1) 1 2 := ⟨by decide +kernel, rfl⟩
theorem d6_2 : DAt B6 2 (.invokevirtual 77) 3 5 := ⟨by decide +kernel, rfl⟩
theorem d6_5 : DAt B6 5 (.ifCond .ne 5) 3 8 := ⟨by decide +kernel, rfl⟩
theorem d6_8 : DAt B6 8 (.iconst (-1)) 1 9 := ⟨by decide +kernel, rfl⟩
theorem d6_9 : DAt B6 9 (.ireturn) 1 10 := ⟨by decide +kernel, rfl⟩
theorem d6_10 : DAt B6 10 (.aload_n 0) 1 11 := ⟨by decide +kernel, rfl⟩
theorem d6_11 : DAt B6 11 (.getfield 16) 3 14 := ⟨by decide +kernel, rfl⟩
theorem d6_14 : DAt B6 14 (.iload_n 1) 1 15 := ⟨by decide +kernel, rfl⟩
theorem d6_15 : DAt B6 15 (.iaload) 1 16 := ⟨by decide +kernel, rfl⟩
theorem d6_16 : DAt B6 16 (.ireturn) 1 17 := ⟨by decide +kernel, rfl⟩
def B8 : Bdy := ((⟨"MirrorResync", "isDown", "()Z"⟩ : MethodName), prog_1_method_15_code, 1, (some .boolean), ({ frames := 0, cells := 0, slots := 0, locals := 0 } : Room))
theorem d8_0 : DAt B8 0 (.aload_n 0) 1 1 := ⟨by decide +kernel, rfl⟩
theorem d8_1 : DAt B8 1 (.getfield 46) 3 4 := ⟨by decide +kernel, rfl⟩
theorem d8_4 : DAt B8 4 (.ireturn) 1 5 := ⟨by decide +kernel, rfl⟩
def B9 : Bdy := ((⟨"MirrorResync", "pendingBlock", "()I"⟩ : MethodName), prog_1_method_13_code, 1, (some .int), ({ frames := 0, cells := 0, slots := 0, locals := 0 } : Room))
theorem d9_0 : DAt B9 0 (.aload_n 0) 1 1 := ⟨by decide +kernel, rfl⟩
theorem d9_1 : DAt B9 1 (.getfield 50) 3 4 := ⟨by decide +kernel, rfl⟩
theorem d9_4 : DAt B9 4 (.ifCond .eq 10) 3 7 := ⟨by decide +kernel, rfl⟩
theorem d9_7 : DAt B9 7 (.aload_n 0) 1 8 := ⟨by decide +kernel, rfl⟩
theorem d9_8 : DAt B9 8 (.getfield 53) 3 11 := ⟨by decide +kernel, rfl⟩
theorem d9_11 : DAt B9 11 (.goto 4) 3 14 := ⟨by decide +kernel, rfl⟩
theorem d9_14 : DAt B9 14 (.iconst (-1)) 1 15 := ⟨by decide +kernel, rfl⟩
theorem d9_15 : DAt B9 15 (.ireturn) 1 16 := ⟨by decide +kernel, rfl⟩
def B10 : Bdy := ((⟨"MirrorResync", "pendingCursor", "()I"⟩ : MethodName), prog_1_method_14_code, 1, (some .int), ({ frames := 0, cells := 0, slots := 0, locals := 0 } : Room))
theorem d10_0 : DAt B10 0 (.aload_n 0) 1 1 := ⟨by decide +kernel, rfl⟩
theorem d10_1 : DAt B10 1 (.getfield 50) 3 4 := ⟨by decide +kernel, rfl⟩
theorem d10_4 : DAt B10 4 (.ifCond .eq 10) 3 7 := ⟨by decide +kernel, rfl⟩
theorem d10_7 : DAt B10 7 (.aload_n 0) 1 8 := ⟨by decide +kernel, rfl⟩
theorem d10_8 : DAt B10 8 (.getfield 59) 3 11 := ⟨by decide +kernel, rfl⟩
theorem d10_11 : DAt B10 11 (.goto 4) 3 14 := ⟨by decide +kernel, rfl⟩
theorem d10_14 : DAt B10 14 (.iconst (-1)) 1 15 := ⟨by decide +kernel, rfl⟩
theorem d10_15 : DAt B10 15 (.ireturn) 1 16 := ⟨by decide +kernel, rfl⟩
def B11 : Bdy := ((⟨"MirrorResync", "read", "(I)I"⟩ : MethodName), prog_1_method_10_code, 3, (some .int), ({ frames := 1, cells := 0, slots := 0, locals := 13 } : Room))
theorem d11_0 : DAt B11 0 (.aload_n 0) 1 1 := ⟨by decide +kernel, rfl⟩
theorem d11_1 : DAt B11 1 (.getfield 46) 3 4 := ⟨by decide +kernel, rfl⟩
theorem d11_4 : DAt B11 4 (.ifCond .ne 11) 3 7 := ⟨by decide +kernel, rfl⟩
theorem d11_7 : DAt B11 7 (.aload_n 0) 1 8 := ⟨by decide +kernel, rfl⟩
theorem d11_8 : DAt B11 8 (.iload_n 1) 1 9 := ⟨by decide +kernel, rfl⟩
theorem d11_9 : DAt B11 9 (.invokevirtual 62) 3 12 := ⟨by decide +kernel, rfl⟩
theorem d11_12 : DAt B11 12 (.ifCond .ne 5) 3 15 := ⟨by decide +kernel, rfl⟩
theorem d11_15 : DAt B11 15 (.iconst (-1)) 1 16 := ⟨by decide +kernel, rfl⟩
theorem d11_16 : DAt B11 16 (.ireturn) 1 17 := ⟨by decide +kernel, rfl⟩
theorem d11_17 : DAt B11 17 (.aload_n 0) 1 18 := ⟨by decide +kernel, rfl⟩
theorem d11_18 : DAt B11 18 (.getfield 16) 3 21 := ⟨by decide +kernel, rfl⟩
theorem d11_21 : DAt B11 21 (.iconst 0) 1 22 := ⟨by decide +kernel, rfl⟩
theorem d11_22 : DAt B11 22 (.iaload) 1 23 := ⟨by decide +kernel, rfl⟩
theorem d11_23 : DAt B11 23 (.ifCond .ne 7) 3 26 := ⟨by decide +kernel, rfl⟩
theorem d11_26 : DAt B11 26 (.iconst 0) 1 27 := ⟨by decide +kernel, rfl⟩
theorem d11_27 : DAt B11 27 (.goto 4) 3 30 := ⟨by decide +kernel, rfl⟩
theorem d11_30 : DAt B11 30 (.iconst 1) 1 31 := ⟨by decide +kernel, rfl⟩
theorem d11_31 : DAt B11 31 (.istore_n 2) 1 32 := ⟨by decide +kernel, rfl⟩
theorem d11_32 : DAt B11 32 (.aload_n 0) 1 33 := ⟨by decide +kernel, rfl⟩
theorem d11_33 : DAt B11 33 (.getfield 7) 3 36 := ⟨by decide +kernel, rfl⟩
theorem d11_36 : DAt B11 36 (.iload_n 2) 1 37 := ⟨by decide +kernel, rfl⟩
theorem d11_37 : DAt B11 37 (.bipush 32) 2 39 := ⟨by decide +kernel, rfl⟩
theorem d11_39 : DAt B11 39 (.imul) 1 40 := ⟨by decide +kernel, rfl⟩
theorem d11_40 : DAt B11 40 (.iload_n 1) 1 41 := ⟨by decide +kernel, rfl⟩
theorem d11_41 : DAt B11 41 (.iadd) 1 42 := ⟨by decide +kernel, rfl⟩
theorem d11_42 : DAt B11 42 (.iaload) 1 43 := ⟨by decide +kernel, rfl⟩
theorem d11_43 : DAt B11 43 (.ireturn) 1 44 := ⟨by decide +kernel, rfl⟩
def B12 : Bdy := ((⟨"MirrorResync", "peek", "(II)I"⟩ : MethodName), prog_1_method_11_code, 3, (some .int), ({ frames := 1, cells := 0, slots := 0, locals := 13 } : Room))
theorem d12_0 : DAt B12 0 (.aload_n 0) 1 1 := ⟨by decide +kernel, rfl⟩
theorem d12_1 : DAt B12 1 (.iload_n 1) 1 2 := ⟨by decide +kernel, rfl⟩
theorem d12_2 : DAt B12 2 (.invokevirtual 77) 3 5 := ⟨by decide +kernel, rfl⟩
theorem d12_5 : DAt B12 5 (.ifCond .eq 11) 3 8 := ⟨by decide +kernel, rfl⟩
theorem d12_8 : DAt B12 8 (.aload_n 0) 1 9 := ⟨by decide +kernel, rfl⟩
theorem d12_9 : DAt B12 9 (.iload_n 2) 1 10 := ⟨by decide +kernel, rfl⟩
theorem d12_10 : DAt B12 10 (.invokevirtual 62) 3 13 := ⟨by decide +kernel, rfl⟩
theorem d12_13 : DAt B12 13 (.ifCond .ne 5) 3 16 := ⟨by decide +kernel, rfl⟩
theorem d12_16 : DAt B12 16 (.iconst (-1)) 1 17 := ⟨by decide +kernel, rfl⟩
theorem d12_17 : DAt B12 17 (.ireturn) 1 18 := ⟨by decide +kernel, rfl⟩
theorem d12_18 : DAt B12 18 (.aload_n 0) 1 19 := ⟨by decide +kernel, rfl⟩
theorem d12_19 : DAt B12 19 (.getfield 7) 3 22 := ⟨by decide +kernel, rfl⟩
theorem d12_22 : DAt B12 22 (.iload_n 1) 1 23 := ⟨by decide +kernel, rfl⟩
theorem d12_23 : DAt B12 23 (.bipush 32) 2 25 := ⟨by decide +kernel, rfl⟩
theorem d12_25 : DAt B12 25 (.imul) 1 26 := ⟨by decide +kernel, rfl⟩
theorem d12_26 : DAt B12 26 (.iload_n 2) 1 27 := ⟨by decide +kernel, rfl⟩
theorem d12_27 : DAt B12 27 (.iadd) 1 28 := ⟨by decide +kernel, rfl⟩
theorem d12_28 : DAt B12 28 (.iaload) 1 29 := ⟨by decide +kernel, rfl⟩
theorem d12_29 : DAt B12 29 (.ireturn) 1 30 := ⟨by decide +kernel, rfl⟩
def B13 : Bdy := ((⟨"MirrorResync", "ackedValue", "(I)I"⟩ : MethodName), prog_1_method_16_code, 2, (some .int), ({ frames := 1, cells := 0, slots := 0, locals := 13 } : Room))
theorem d13_0 : DAt B13 0 (.aload_n 0) 1 1 := ⟨by decide +kernel, rfl⟩
theorem d13_1 : DAt B13 1 (.iload_n 1) 1 2 := ⟨by decide +kernel, rfl⟩
theorem d13_2 : DAt B13 2 (.invokevirtual 62) 3 5 := ⟨by decide +kernel, rfl⟩
theorem d13_5 : DAt B13 5 (.ifCond .ne 5) 3 8 := ⟨by decide +kernel, rfl⟩
theorem d13_8 : DAt B13 8 (.iconst (-1)) 1 9 := ⟨by decide +kernel, rfl⟩
theorem d13_9 : DAt B13 9 (.ireturn) 1 10 := ⟨by decide +kernel, rfl⟩
theorem d13_10 : DAt B13 10 (.aload_n 0) 1 11 := ⟨by decide +kernel, rfl⟩
theorem d13_11 : DAt B13 11 (.getfield 13) 3 14 := ⟨by decide +kernel, rfl⟩
theorem d13_14 : DAt B13 14 (.iload_n 1) 1 15 := ⟨by decide +kernel, rfl⟩
theorem d13_15 : DAt B13 15 (.iaload) 1 16 := ⟨by decide +kernel, rfl⟩
theorem d13_16 : DAt B13 16 (.ireturn) 1 17 := ⟨by decide +kernel, rfl⟩
def B15 : Bdy := ((⟨"MirrorResyncL6", "get", "(JI)I"⟩ : MethodName), method_2_code, 3, (some .int), ({ frames := 0, cells := 0, slots := 0, locals := 0 } : Room))
theorem d15_0 : DAt B15 0 (.lload_n 0) 1 1 := ⟨by decide +kernel, rfl⟩
theorem d15_1 : DAt B15 1 (.iconst 5) 1 2 := ⟨by decide +kernel, rfl⟩
theorem d15_2 : DAt B15 2 (.iload_n 2) 1 3 := ⟨by decide +kernel, rfl⟩
theorem d15_3 : DAt B15 3 (.imul) 1 4 := ⟨by decide +kernel, rfl⟩
theorem d15_4 : DAt B15 4 (.lushr) 1 5 := ⟨by decide +kernel, rfl⟩
theorem d15_5 : DAt B15 5 (.ldc2_w 7) 3 8 := ⟨by decide +kernel, rfl⟩
theorem d15_8 : DAt B15 8 (.land) 1 9 := ⟨by decide +kernel, rfl⟩
theorem d15_9 : DAt B15 9 (.l2i) 1 10 := ⟨by decide +kernel, rfl⟩
theorem d15_10 : DAt B15 10 (.ireturn) 1 11 := ⟨by decide +kernel, rfl⟩
def B5 : Bdy := ((⟨"MirrorResyncL6", "agrees", "(LMirrorResync;JJJIIZIIZ)Z"⟩ : MethodName), method_4_code, 15, (some .boolean), ({ frames := 2, cells := 0, slots := 0, locals := 27 } : Room))
theorem d5_0 : DAt B5 0 (.aload_n 0) 1 1 := ⟨by decide +kernel, rfl⟩
theorem d5_1 : DAt B5 1 (.iconst 0) 1 2 := ⟨by decide +kernel, rfl⟩
theorem d5_2 : DAt B5 2 (.invokevirtual 11) 3 5 := ⟨by decide +kernel, rfl⟩
theorem d5_5 : DAt B5 5 (.iload 7) 2 7 := ⟨by decide +kernel, rfl⟩
theorem d5_7 : DAt B5 7 (.if_icmp .ne 31) 3 10 := ⟨by decide +kernel, rfl⟩
theorem d5_10 : DAt B5 10 (.aload_n 0) 1 11 := ⟨by decide +kernel, rfl⟩
theorem d5_11 : DAt B5 11 (.iconst 1) 1 12 := ⟨by decide +kernel, rfl⟩
theorem d5_12 : DAt B5 12 (.invokevirtual 11) 3 15 := ⟨by decide +kernel, rfl⟩
theorem d5_15 : DAt B5 15 (.iload 8) 2 17 := ⟨by decide +kernel, rfl⟩
theorem d5_17 : DAt B5 17 (.if_icmp .ne 21) 3 20 := ⟨by decide +kernel, rfl⟩
theorem d5_20 : DAt B5 20 (.aload_n 0) 1 21 := ⟨by decide +kernel, rfl⟩
theorem d5_21 : DAt B5 21 (.iconst 2) 1 22 := ⟨by decide +kernel, rfl⟩
theorem d5_22 : DAt B5 22 (.invokevirtual 11) 3 25 := ⟨by decide +kernel, rfl⟩
theorem d5_25 : DAt B5 25 (.iconst (-1)) 1 26 := ⟨by decide +kernel, rfl⟩
theorem d5_26 : DAt B5 26 (.if_icmp .ne 12) 3 29 := ⟨by decide +kernel, rfl⟩
theorem d5_29 : DAt B5 29 (.aload_n 0) 1 30 := ⟨by decide +kernel, rfl⟩
theorem d5_30 : DAt B5 30 (.invokevirtual 17) 3 33 := ⟨by decide +kernel, rfl⟩
theorem d5_33 : DAt B5 33 (.iload 12) 2 35 := ⟨by decide +kernel, rfl⟩
theorem d5_35 : DAt B5 35 (.if_icmp .eq 5) 3 38 := ⟨by decide +kernel, rfl⟩
theorem d5_38 : DAt B5 38 (.iconst 0) 1 39 := ⟨by decide +kernel, rfl⟩
theorem d5_39 : DAt B5 39 (.ireturn) 1 40 := ⟨by decide +kernel, rfl⟩
theorem d5_40 : DAt B5 40 (.aload_n 0) 1 41 := ⟨by decide +kernel, rfl⟩
theorem d5_41 : DAt B5 41 (.invokevirtual 21) 3 44 := ⟨by decide +kernel, rfl⟩
theorem d5_44 : DAt B5 44 (.iload 9) 2 46 := ⟨by decide +kernel, rfl⟩
theorem d5_46 : DAt B5 46 (.ifCond .eq 8) 3 49 := ⟨by decide +kernel, rfl⟩
theorem d5_49 : DAt B5 49 (.iload 10) 2 51 := ⟨by decide +kernel, rfl⟩
theorem d5_51 : DAt B5 51 (.goto 4) 3 54 := ⟨by decide +kernel, rfl⟩
theorem d5_54 : DAt B5 54 (.iconst (-1)) 1 55 := ⟨by decide +kernel, rfl⟩
theorem d5_55 : DAt B5 55 (.if_icmp .ne 21) 3 58 := ⟨by decide +kernel, rfl⟩
theorem d5_58 : DAt B5 58 (.aload_n 0) 1 59 := ⟨by decide +kernel, rfl⟩
theorem d5_59 : DAt B5 59 (.invokevirtual 25) 3 62 := ⟨by decide +kernel, rfl⟩
theorem d5_62 : DAt B5 62 (.iload 9) 2 64 := ⟨by decide +kernel, rfl⟩
theorem d5_64 : DAt B5 64 (.ifCond .eq 8) 3 67 := ⟨by decide +kernel, rfl⟩
theorem d5_67 : DAt B5 67 (.iload 11) 2 69 := ⟨by decide +kernel, rfl⟩
theorem d5_69 : DAt B5 69 (.goto 4) 3 72 := ⟨by decide +kernel, rfl⟩
theorem d5_72 : DAt B5 72 (.iconst (-1)) 1 73 := ⟨by decide +kernel, rfl⟩
theorem d5_73 : DAt B5 73 (.if_icmp .eq 5) 3 76 := ⟨by decide +kernel, rfl⟩
theorem d5_76 : DAt B5 76 (.iconst 0) 1 77 := ⟨by decide +kernel, rfl⟩
theorem d5_77 : DAt B5 77 (.ireturn) 1 78 := ⟨by decide +kernel, rfl⟩
theorem d5_78 : DAt B5 78 (.aload_n 0) 1 79 := ⟨by decide +kernel, rfl⟩
theorem d5_79 : DAt B5 79 (.bipush 12) 2 81 := ⟨by decide +kernel, rfl⟩
theorem d5_81 : DAt B5 81 (.invokevirtual 28) 3 84 := ⟨by decide +kernel, rfl⟩
theorem d5_84 : DAt B5 84 (.iconst (-1)) 1 85 := ⟨by decide +kernel, rfl⟩
theorem d5_85 : DAt B5 85 (.if_icmp .ne 22) 3 88 := ⟨by decide +kernel, rfl⟩
theorem d5_88 : DAt B5 88 (.aload_n 0) 1 89 := ⟨by decide +kernel, rfl⟩
theorem d5_89 : DAt B5 89 (.iconst 2) 1 90 := ⟨by decide +kernel, rfl⟩
theorem d5_90 : DAt B5 90 (.iconst 0) 1 91 := ⟨by decide +kernel, rfl⟩
theorem d5_91 : DAt B5 91 (.invokevirtual 31) 3 94 := ⟨by decide +kernel, rfl⟩
theorem d5_94 : DAt B5 94 (.iconst (-1)) 1 95 := ⟨by decide +kernel, rfl⟩
theorem d5_95 : DAt B5 95 (.if_icmp .ne 12) 3 98 := ⟨by decide +kernel, rfl⟩
theorem d5_98 : DAt B5 98 (.aload_n 0) 1 99 := ⟨by decide +kernel, rfl⟩
theorem d5_99 : DAt B5 99 (.iconst (-1)) 1 100 := ⟨by decide +kernel, rfl⟩
theorem d5_100 : DAt B5 100 (.invokevirtual 35) 3 103 := ⟨by decide +kernel, rfl⟩
theorem d5_103 : DAt B5 103 (.iconst (-1)) 1 104 := ⟨by decide +kernel, rfl⟩
theorem d5_104 : DAt B5 104 (.if_icmp .eq 5) 3 107 := ⟨by decide +kernel, rfl⟩
theorem d5_107 : DAt B5 107 (.iconst 0) 1 108 := ⟨by decide +kernel, rfl⟩
theorem d5_108 : DAt B5 108 (.ireturn) 1 109 := ⟨by decide +kernel, rfl⟩
theorem d5_109 : DAt B5 109 (.iconst 0) 1 110 := ⟨by decide +kernel, rfl⟩
theorem d5_110 : DAt B5 110 (.istore 13) 2 112 := ⟨by decide +kernel, rfl⟩
theorem d5_112 : DAt B5 112 (.iload 13) 2 114 := ⟨by decide +kernel, rfl⟩
theorem d5_114 : DAt B5 114 (.bipush 12) 2 116 := ⟨by decide +kernel, rfl⟩
theorem d5_116 : DAt B5 116 (.if_icmp .ge 103) 3 119 := ⟨by decide +kernel, rfl⟩
theorem d5_119 : DAt B5 119 (.aload_n 0) 1 120 := ⟨by decide +kernel, rfl⟩
theorem d5_120 : DAt B5 120 (.iconst 0) 1 121 := ⟨by decide +kernel, rfl⟩
theorem d5_121 : DAt B5 121 (.iload 13) 2 123 := ⟨by decide +kernel, rfl⟩
theorem d5_123 : DAt B5 123 (.invokevirtual 31) 3 126 := ⟨by decide +kernel, rfl⟩
theorem d5_126 : DAt B5 126 (.lload_n 1) 1 127 := ⟨by decide +kernel, rfl⟩
theorem d5_127 : DAt B5 127 (.iload 13) 2 129 := ⟨by decide +kernel, rfl⟩
theorem d5_129 : DAt B5 129 (.invokestatic 38) 3 132 := ⟨by decide +kernel, rfl⟩
theorem d5_132 : DAt B5 132 (.if_icmp .ne 35) 3 135 := ⟨by decide +kernel, rfl⟩
theorem d5_135 : DAt B5 135 (.aload_n 0) 1 136 := ⟨by decide +kernel, rfl⟩
theorem d5_136 : DAt B5 136 (.iconst 1) 1 137 := ⟨by decide +kernel, rfl⟩
theorem d5_137 : DAt B5 137 (.iload 13) 2 139 := ⟨by decide +kernel, rfl⟩
theorem d5_139 : DAt B5 139 (.invokevirtual 31) 3 142 := ⟨by decide +kernel, rfl⟩
theorem d5_142 : DAt B5 142 (.lload_n 3) 1 143 := ⟨by decide +kernel, rfl⟩
theorem d5_143 : DAt B5 143 (.iload 13) 2 145 := ⟨by decide +kernel, rfl⟩
theorem d5_145 : DAt B5 145 (.invokestatic 38) 3 148 := ⟨by decide +kernel, rfl⟩
theorem d5_148 : DAt B5 148 (.if_icmp .ne 19) 3 151 := ⟨by decide +kernel, rfl⟩
theorem d5_151 : DAt B5 151 (.aload_n 0) 1 152 := ⟨by decide +kernel, rfl⟩
theorem d5_152 : DAt B5 152 (.iload 13) 2 154 := ⟨by decide +kernel, rfl⟩
theorem d5_154 : DAt B5 154 (.invokevirtual 35) 3 157 := ⟨by decide +kernel, rfl⟩
theorem d5_157 : DAt B5 157 (.lload 5) 2 159 := ⟨by decide +kernel, rfl⟩
theorem d5_159 : DAt B5 159 (.iload 13) 2 161 := ⟨by decide +kernel, rfl⟩
theorem d5_161 : DAt B5 161 (.invokestatic 38) 3 164 := ⟨by decide +kernel, rfl⟩
theorem d5_164 : DAt B5 164 (.if_icmp .eq 5) 3 167 := ⟨by decide +kernel, rfl⟩
theorem d5_167 : DAt B5 167 (.iconst 0) 1 168 := ⟨by decide +kernel, rfl⟩
theorem d5_168 : DAt B5 168 (.ireturn) 1 169 := ⟨by decide +kernel, rfl⟩
theorem d5_169 : DAt B5 169 (.iload 12) 2 171 := ⟨by decide +kernel, rfl⟩
theorem d5_171 : DAt B5 171 (.ifCond .eq 7) 3 174 := ⟨by decide +kernel, rfl⟩
theorem d5_174 : DAt B5 174 (.iconst (-1)) 1 175 := ⟨by decide +kernel, rfl⟩
theorem d5_175 : DAt B5 175 (.goto 23) 3 178 := ⟨by decide +kernel, rfl⟩
theorem d5_178 : DAt B5 178 (.iload 7) 2 180 := ⟨by decide +kernel, rfl⟩
theorem d5_180 : DAt B5 180 (.ifCond .ne 12) 3 183 := ⟨by decide +kernel, rfl⟩
theorem d5_183 : DAt B5 183 (.lload_n 1) 1 184 := ⟨by decide +kernel, rfl⟩
theorem d5_184 : DAt B5 184 (.iload 13) 2 186 := ⟨by decide +kernel, rfl⟩
theorem d5_186 : DAt B5 186 (.invokestatic 38) 3 189 := ⟨by decide +kernel, rfl⟩
theorem d5_189 : DAt B5 189 (.goto 9) 3 192 := ⟨by decide +kernel, rfl⟩
theorem d5_192 : DAt B5 192 (.lload_n 3) 1 193 := ⟨by decide +kernel, rfl⟩
theorem d5_193 : DAt B5 193 (.iload 13) 2 195 := ⟨by decide +kernel, rfl⟩
theorem d5_195 : DAt B5 195 (.invokestatic 38) 3 198 := ⟨by decide +kernel, rfl⟩
theorem d5_198 : DAt B5 198 (.istore 14) 2 200 := ⟨by decide +kernel, rfl⟩
theorem d5_200 : DAt B5 200 (.aload_n 0) 1 201 := ⟨by decide +kernel, rfl⟩
theorem d5_201 : DAt B5 201 (.iload 13) 2 203 := ⟨by decide +kernel, rfl⟩
theorem d5_203 : DAt B5 203 (.invokevirtual 28) 3 206 := ⟨by decide +kernel, rfl⟩
theorem d5_206 : DAt B5 206 (.iload 14) 2 208 := ⟨by decide +kernel, rfl⟩
theorem d5_208 : DAt B5 208 (.if_icmp .eq 5) 3 211 := ⟨by decide +kernel, rfl⟩
theorem d5_211 : DAt B5 211 (.iconst 0) 1 212 := ⟨by decide +kernel, rfl⟩
theorem d5_212 : DAt B5 212 (.ireturn) 1 213 := ⟨by decide +kernel, rfl⟩
theorem d5_213 : DAt B5 213 (.iinc 13 1) 3 216 := ⟨by decide +kernel, rfl⟩
theorem d5_216 : DAt B5 216 (.goto (-104)) 3 219 := ⟨by decide +kernel, rfl⟩
theorem d5_219 : DAt B5 219 (.iconst 1) 1 220 := ⟨by decide +kernel, rfl⟩
theorem d5_220 : DAt B5 220 (.ireturn) 1 221 := ⟨by decide +kernel, rfl⟩
def B0 : Bdy := (x, code, maxLocals, ret, room_1)
theorem d0_0 : DAt B0 0 (.aload_n 0) 1 1 := ⟨at_0, rfl⟩
theorem d0_1 : DAt B0 1 (.arraylength) 1 2 := ⟨at_1, rfl⟩
theorem d0_2 : DAt B0 2 (.istore_n 1) 1 3 := ⟨at_2, rfl⟩
theorem d0_3 : DAt B0 3 (.new 12) 3 6 := ⟨at_3, rfl⟩
theorem d0_6 : DAt B0 6 (.dup) 1 7 := ⟨at_6, rfl⟩
theorem d0_7 : DAt B0 7 (.bipush 12) 2 9 := ⟨at_7, rfl⟩
theorem d0_9 : DAt B0 9 (.iload_n 1) 1 10 := ⟨at_9, rfl⟩
theorem d0_10 : DAt B0 10 (.ifCond .le 9) 3 13 := ⟨at_10, rfl⟩
theorem d0_13 : DAt B0 13 (.aload_n 0) 1 14 := ⟨at_13, rfl⟩
theorem d0_14 : DAt B0 14 (.iconst 0) 1 15 := ⟨at_14, rfl⟩
theorem d0_15 : DAt B0 15 (.iaload) 1 16 := ⟨at_15, rfl⟩
theorem d0_16 : DAt B0 16 (.goto 4) 3 19 := ⟨at_16, rfl⟩
theorem d0_19 : DAt B0 19 (.iconst 1) 1 20 := ⟨at_19, rfl⟩
theorem d0_20 : DAt B0 20 (.iload_n 1) 1 21 := ⟨at_20, rfl⟩
theorem d0_21 : DAt B0 21 (.iconst 1) 1 22 := ⟨at_21, rfl⟩
theorem d0_22 : DAt B0 22 (.if_icmp .le 9) 3 25 := ⟨at_22, rfl⟩
theorem d0_25 : DAt B0 25 (.aload_n 0) 1 26 := ⟨at_25, rfl⟩
theorem d0_26 : DAt B0 26 (.iconst 1) 1 27 := ⟨at_26, rfl⟩
theorem d0_27 : DAt B0 27 (.iaload) 1 28 := ⟨at_27, rfl⟩
theorem d0_28 : DAt B0 28 (.goto 4) 3 31 := ⟨at_28, rfl⟩
theorem d0_31 : DAt B0 31 (.iconst 0) 1 32 := ⟨at_31, rfl⟩
theorem d0_32 : DAt B0 32 (.invokespecial 44) 3 35 := ⟨at_32, rfl⟩
theorem d0_35 : DAt B0 35 (.astore_n 2) 1 36 := ⟨at_35, rfl⟩
theorem d0_36 : DAt B0 36 (.lconst 0) 1 37 := ⟨at_36, rfl⟩
theorem d0_37 : DAt B0 37 (.lstore_n 3) 1 38 := ⟨at_37, rfl⟩
theorem d0_38 : DAt B0 38 (.lconst 0) 1 39 := ⟨at_38, rfl⟩
theorem d0_39 : DAt B0 39 (.lstore 5) 2 41 := ⟨at_39, rfl⟩
theorem d0_41 : DAt B0 41 (.lconst 0) 1 42 := ⟨at_41, rfl⟩
theorem d0_42 : DAt B0 42 (.lstore 7) 2 44 := ⟨at_42, rfl⟩
theorem d0_44 : DAt B0 44 (.iconst 0) 1 45 := ⟨at_44, rfl⟩
theorem d0_45 : DAt B0 45 (.istore 9) 2 47 := ⟨at_45, rfl⟩
theorem d0_47 : DAt B0 47 (.iconst 0) 1 48 := ⟨at_47, rfl⟩
theorem d0_48 : DAt B0 48 (.istore 10) 2 50 := ⟨at_48, rfl⟩
theorem d0_50 : DAt B0 50 (.iconst 0) 1 51 := ⟨at_50, rfl⟩
theorem d0_51 : DAt B0 51 (.istore 11) 2 53 := ⟨at_51, rfl⟩
theorem d0_53 : DAt B0 53 (.iconst 0) 1 54 := ⟨at_53, rfl⟩
theorem d0_54 : DAt B0 54 (.istore 12) 2 56 := ⟨at_54, rfl⟩
theorem d0_56 : DAt B0 56 (.iconst 0) 1 57 := ⟨at_56, rfl⟩
theorem d0_57 : DAt B0 57 (.istore 13) 2 59 := ⟨at_57, rfl⟩
theorem d0_59 : DAt B0 59 (.iconst 0) 1 60 := ⟨at_59, rfl⟩
theorem d0_60 : DAt B0 60 (.istore 14) 2 62 := ⟨at_60, rfl⟩
theorem d0_62 : DAt B0 62 (.iconst 0) 1 63 := ⟨at_62, rfl⟩
theorem d0_63 : DAt B0 63 (.istore 15) 2 65 := ⟨at_63, rfl⟩
theorem d0_65 : DAt B0 65 (.iconst 2) 1 66 := ⟨at_65, rfl⟩
theorem d0_66 : DAt B0 66 (.istore 16) 2 68 := ⟨at_66, rfl⟩
theorem d0_68 : DAt B0 68 (.iload 16) 2 70 := ⟨at_68, rfl⟩
theorem d0_70 : DAt B0 70 (.iconst 2) 1 71 := ⟨at_70, rfl⟩
theorem d0_71 : DAt B0 71 (.iadd) 1 72 := ⟨at_71, rfl⟩
theorem d0_72 : DAt B0 72 (.iload_n 1) 1 73 := ⟨at_72, rfl⟩
theorem d0_73 : DAt B0 73 (.if_icmp .ge 704) 3 76 := ⟨at_73, rfl⟩
theorem d0_76 : DAt B0 76 (.aload_n 0) 1 77 := ⟨at_76, rfl⟩
theorem d0_77 : DAt B0 77 (.iload 16) 2 79 := ⟨at_77, rfl⟩
theorem d0_79 : DAt B0 79 (.iaload) 1 80 := ⟨at_79, rfl⟩
theorem d0_80 : DAt B0 80 (.bipush 15) 2 82 := ⟨at_80, rfl⟩
theorem d0_82 : DAt B0 82 (.iand) 1 83 := ⟨at_82, rfl⟩
theorem d0_83 : DAt B0 83 (.istore 17) 2 85 := ⟨at_83, rfl⟩
theorem d0_85 : DAt B0 85 (.aload_n 0) 1 86 := ⟨at_85, rfl⟩
theorem d0_86 : DAt B0 86 (.iload 16) 2 88 := ⟨at_86, rfl⟩
theorem d0_88 : DAt B0 88 (.iconst 1) 1 89 := ⟨at_88, rfl⟩
theorem d0_89 : DAt B0 89 (.iadd) 1 90 := ⟨at_89, rfl⟩
theorem d0_90 : DAt B0 90 (.iaload) 1 91 := ⟨at_90, rfl⟩
theorem d0_91 : DAt B0 91 (.istore 18) 2 93 := ⟨at_91, rfl⟩
theorem d0_93 : DAt B0 93 (.aload_n 0) 1 94 := ⟨at_93, rfl⟩
theorem d0_94 : DAt B0 94 (.iload 16) 2 96 := ⟨at_94, rfl⟩
theorem d0_96 : DAt B0 96 (.iconst 2) 1 97 := ⟨at_96, rfl⟩
theorem d0_97 : DAt B0 97 (.iadd) 1 98 := ⟨at_97, rfl⟩
theorem d0_98 : DAt B0 98 (.iaload) 1 99 := ⟨at_98, rfl⟩
theorem d0_99 : DAt B0 99 (.istore 19) 2 101 := ⟨at_99, rfl⟩
theorem d0_101 : DAt B0 101 (.iload 18) 2 103 := ⟨at_101, rfl⟩
theorem d0_103 : DAt B0 103 (.bipush 15) 2 105 := ⟨at_103, rfl⟩
theorem d0_105 : DAt B0 105 (.iand) 1 106 := ⟨at_105, rfl⟩
theorem d0_106 : DAt B0 106 (.istore 20) 2 108 := ⟨at_106, rfl⟩
theorem d0_108 : DAt B0 108 (.iload 19) 2 110 := ⟨at_108, rfl⟩
theorem d0_110 : DAt B0 110 (.bipush 31) 2 112 := ⟨at_110, rfl⟩
theorem d0_112 : DAt B0 112 (.iand) 1 113 := ⟨at_112, rfl⟩
theorem d0_113 : DAt B0 113 (.iconst 1) 1 114 := ⟨at_113, rfl⟩
theorem d0_114 : DAt B0 114 (.isub) 1 115 := ⟨at_114, rfl⟩
theorem d0_115 : DAt B0 115 (.istore 21) 2 117 := ⟨at_115, rfl⟩
theorem d0_117 : DAt B0 117 (.iload 18) 2 119 := ⟨at_117, rfl⟩
theorem d0_119 : DAt B0 119 (.bipush 7) 2 121 := ⟨at_119, rfl⟩
theorem d0_121 : DAt B0 121 (.iand) 1 122 := ⟨at_121, rfl⟩
theorem d0_122 : DAt B0 122 (.istore 22) 2 124 := ⟨at_122, rfl⟩
theorem d0_124 : DAt B0 124 (.iload 22) 2 126 := ⟨at_124, rfl⟩
theorem d0_126 : DAt B0 126 (.iconst 3) 1 127 := ⟨at_126, rfl⟩
theorem d0_127 : DAt B0 127 (.if_icmp .lt 9) 3 130 := ⟨at_127, rfl⟩
theorem d0_130 : DAt B0 130 (.iload 22) 2 132 := ⟨at_130, rfl⟩
theorem d0_132 : DAt B0 132 (.iconst 1) 1 133 := ⟨at_132, rfl⟩
theorem d0_133 : DAt B0 133 (.iand) 1 134 := ⟨at_133, rfl⟩
theorem d0_134 : DAt B0 134 (.istore 22) 2 136 := ⟨at_134, rfl⟩
theorem d0_136 : DAt B0 136 (.iload 22) 2 138 := ⟨at_136, rfl⟩
theorem d0_138 : DAt B0 138 (.ifCond .ne 8) 3 141 := ⟨at_138, rfl⟩
theorem d0_141 : DAt B0 141 (.iload 9) 2 143 := ⟨at_141, rfl⟩
theorem d0_143 : DAt B0 143 (.goto 5) 3 146 := ⟨at_143, rfl⟩
theorem d0_146 : DAt B0 146 (.iload 10) 2 148 := ⟨at_146, rfl⟩
theorem d0_148 : DAt B0 148 (.istore 23) 2 150 := ⟨at_148, rfl⟩
theorem d0_150 : DAt B0 150 (.iload 22) 2 152 := ⟨at_150, rfl⟩
theorem d0_152 : DAt B0 152 (.ifCond .ne 8) 3 155 := ⟨at_152, rfl⟩
theorem d0_155 : DAt B0 155 (.iload 10) 2 157 := ⟨at_155, rfl⟩
theorem d0_157 : DAt B0 157 (.goto 5) 3 160 := ⟨at_157, rfl⟩
theorem d0_160 : DAt B0 160 (.iload 9) 2 162 := ⟨at_160, rfl⟩
theorem d0_162 : DAt B0 162 (.istore 24) 2 164 := ⟨at_162, rfl⟩
theorem d0_164 : DAt B0 164 (.iload 17) 2 166 := ⟨at_164, rfl⟩
theorem d0_166 : DAt B0 166 (.ifCond .ne 74) 3 169 := ⟨at_166, rfl⟩
theorem d0_169 : DAt B0 169 (.aload_n 2) 1 170 := ⟨at_169, rfl⟩
theorem d0_170 : DAt B0 170 (.iload 20) 2 172 := ⟨at_170, rfl⟩
theorem d0_172 : DAt B0 172 (.iload 21) 2 174 := ⟨at_172, rfl⟩
theorem d0_174 : DAt B0 174 (.invokevirtual 47) 3 177 := ⟨at_174, rfl⟩
theorem d0_177 : DAt B0 177 (.istore 26) 2 179 := ⟨at_177, rfl⟩
theorem d0_179 : DAt B0 179 (.iload 15) 2 181 := ⟨at_179, rfl⟩
theorem d0_181 : DAt B0 181 (.ifCond .eq 7) 3 184 := ⟨at_181, rfl⟩
theorem d0_184 : DAt B0 184 (.iconst (-1)) 1 185 := ⟨at_184, rfl⟩
theorem d0_185 : DAt B0 185 (.goto 31) 3 188 := ⟨at_185, rfl⟩
theorem d0_188 : DAt B0 188 (.iload 20) 2 190 := ⟨at_188, rfl⟩
theorem d0_190 : DAt B0 190 (.bipush 12) 2 192 := ⟨at_190, rfl⟩
theorem d0_192 : DAt B0 192 (.if_icmp .ge 8) 3 195 := ⟨at_192, rfl⟩
theorem d0_195 : DAt B0 195 (.iload 21) 2 197 := ⟨at_195, rfl⟩
theorem d0_197 : DAt B0 197 (.ifCond .ge 8) 3 200 := ⟨at_197, rfl⟩
theorem d0_200 : DAt B0 200 (.bipush (-2)) 2 202 := ⟨at_200, rfl⟩
theorem d0_202 : DAt B0 202 (.goto 14) 3 205 := ⟨at_202, rfl⟩
theorem d0_205 : DAt B0 205 (.iload 14) 2 207 := ⟨at_205, rfl⟩
theorem d0_207 : DAt B0 207 (.ifCond .eq 8) 3 210 := ⟨at_207, rfl⟩
theorem d0_210 : DAt B0 210 (.bipush (-3)) 2 212 := ⟨at_210, rfl⟩
theorem d0_212 : DAt B0 212 (.goto 4) 3 215 := ⟨at_212, rfl⟩
theorem d0_215 : DAt B0 215 (.iconst 0) 1 216 := ⟨at_215, rfl⟩
theorem d0_216 : DAt B0 216 (.istore 25) 2 218 := ⟨at_216, rfl⟩
theorem d0_218 : DAt B0 218 (.iload 25) 2 220 := ⟨at_218, rfl⟩
theorem d0_220 : DAt B0 220 (.ifCond .ne 516) 3 223 := ⟨at_220, rfl⟩
theorem d0_223 : DAt B0 223 (.iconst 1) 1 224 := ⟨at_223, rfl⟩
theorem d0_224 : DAt B0 224 (.istore 14) 2 226 := ⟨at_224, rfl⟩
theorem d0_226 : DAt B0 226 (.iload 20) 2 228 := ⟨at_226, rfl⟩
theorem d0_228 : DAt B0 228 (.istore 11) 2 230 := ⟨at_228, rfl⟩
theorem d0_230 : DAt B0 230 (.iload 21) 2 232 := ⟨at_230, rfl⟩
theorem d0_232 : DAt B0 232 (.istore 12) 2 234 := ⟨at_232, rfl⟩
theorem d0_234 : DAt B0 234 (.iconst 0) 1 235 := ⟨at_234, rfl⟩
theorem d0_235 : DAt B0 235 (.istore 13) 2 237 := ⟨at_235, rfl⟩
theorem d0_237 : DAt B0 237 (.goto 499) 3 240 := ⟨at_237, rfl⟩
theorem d0_240 : DAt B0 240 (.iload 17) 2 242 := ⟨at_240, rfl⟩
theorem d0_242 : DAt B0 242 (.iconst 1) 1 243 := ⟨at_242, rfl⟩
theorem d0_243 : DAt B0 243 (.if_icmp .ne 35) 3 246 := ⟨at_243, rfl⟩
theorem d0_246 : DAt B0 246 (.aload_n 2) 1 247 := ⟨at_246, rfl⟩
theorem d0_247 : DAt B0 247 (.invokevirtual 50) 3 250 := ⟨at_247, rfl⟩
theorem d0_250 : DAt B0 250 (.istore 26) 2 252 := ⟨at_250, rfl⟩
theorem d0_252 : DAt B0 252 (.iload 15) 2 254 := ⟨at_252, rfl⟩
theorem d0_254 : DAt B0 254 (.ifCond .eq 7) 3 257 := ⟨at_254, rfl⟩
theorem d0_257 : DAt B0 257 (.iconst (-1)) 1 258 := ⟨at_257, rfl⟩
theorem d0_258 : DAt B0 258 (.goto 4) 3 261 := ⟨at_258, rfl⟩
theorem d0_261 : DAt B0 261 (.iconst 0) 1 262 := ⟨at_261, rfl⟩
theorem d0_262 : DAt B0 262 (.istore 25) 2 264 := ⟨at_262, rfl⟩
theorem d0_264 : DAt B0 264 (.iload 15) 2 266 := ⟨at_264, rfl⟩
theorem d0_266 : DAt B0 266 (.ifCond .ne 470) 3 269 := ⟨at_266, rfl⟩
theorem d0_269 : DAt B0 269 (.iconst 0) 1 270 := ⟨at_269, rfl⟩
theorem d0_270 : DAt B0 270 (.istore 14) 2 272 := ⟨at_270, rfl⟩
theorem d0_272 : DAt B0 272 (.iconst 1) 1 273 := ⟨at_272, rfl⟩
theorem d0_273 : DAt B0 273 (.istore 15) 2 275 := ⟨at_273, rfl⟩
theorem d0_275 : DAt B0 275 (.goto 461) 3 278 := ⟨at_275, rfl⟩
theorem d0_278 : DAt B0 278 (.iload 17) 2 280 := ⟨at_278, rfl⟩
theorem d0_280 : DAt B0 280 (.iconst 2) 1 281 := ⟨at_280, rfl⟩
theorem d0_281 : DAt B0 281 (.if_icmp .ne 46) 3 284 := ⟨at_281, rfl⟩
theorem d0_284 : DAt B0 284 (.aload_n 2) 1 285 := ⟨at_284, rfl⟩
theorem d0_285 : DAt B0 285 (.invokevirtual 53) 3 288 := ⟨at_285, rfl⟩
theorem d0_288 : DAt B0 288 (.istore 26) 2 290 := ⟨at_288, rfl⟩
theorem d0_290 : DAt B0 290 (.iload 15) 2 292 := ⟨at_290, rfl⟩
theorem d0_292 : DAt B0 292 (.ifCond .eq 7) 3 295 := ⟨at_292, rfl⟩
theorem d0_295 : DAt B0 295 (.iconst 0) 1 296 := ⟨at_295, rfl⟩
theorem d0_296 : DAt B0 296 (.goto 5) 3 299 := ⟨at_296, rfl⟩
theorem d0_299 : DAt B0 299 (.bipush (-4)) 2 301 := ⟨at_299, rfl⟩
theorem d0_301 : DAt B0 301 (.istore 25) 2 303 := ⟨at_301, rfl⟩
theorem d0_303 : DAt B0 303 (.iload 15) 2 305 := ⟨at_303, rfl⟩
theorem d0_305 : DAt B0 305 (.ifCond .eq 16) 3 308 := ⟨at_305, rfl⟩
theorem d0_308 : DAt B0 308 (.iload 9) 2 310 := ⟨at_308, rfl⟩
theorem d0_310 : DAt B0 310 (.ifCond .ne 11) 3 313 := ⟨at_310, rfl⟩
theorem d0_313 : DAt B0 313 (.iload 10) 2 315 := ⟨at_313, rfl⟩
theorem d0_315 : DAt B0 315 (.ifCond .ne 6) 3 318 := ⟨at_315, rfl⟩
theorem d0_318 : DAt B0 318 (.iconst 1) 1 319 := ⟨at_318, rfl⟩
theorem d0_319 : DAt B0 319 (.istore 10) 2 321 := ⟨at_319, rfl⟩
theorem d0_321 : DAt B0 321 (.iconst 0) 1 322 := ⟨at_321, rfl⟩
theorem d0_322 : DAt B0 322 (.istore 15) 2 324 := ⟨at_322, rfl⟩
theorem d0_324 : DAt B0 324 (.goto 412) 3 327 := ⟨at_324, rfl⟩
theorem d0_327 : DAt B0 327 (.iload 17) 2 329 := ⟨at_327, rfl⟩
theorem d0_329 : DAt B0 329 (.iconst 3) 1 330 := ⟨at_329, rfl⟩
theorem d0_330 : DAt B0 330 (.if_icmp .ne 72) 3 333 := ⟨at_330, rfl⟩
theorem d0_333 : DAt B0 333 (.aload_n 2) 1 334 := ⟨at_333, rfl⟩
theorem d0_334 : DAt B0 334 (.iload 22) 2 336 := ⟨at_334, rfl⟩
theorem d0_336 : DAt B0 336 (.invokevirtual 56) 3 339 := ⟨at_336, rfl⟩
theorem d0_339 : DAt B0 339 (.istore 26) 2 341 := ⟨at_339, rfl⟩
theorem d0_341 : DAt B0 341 (.iload 15) 2 343 := ⟨at_341, rfl⟩
theorem d0_343 : DAt B0 343 (.ifCond .eq 7) 3 346 := ⟨at_343, rfl⟩
theorem d0_346 : DAt B0 346 (.iconst (-1)) 1 347 := ⟨at_346, rfl⟩
theorem d0_347 : DAt B0 347 (.goto 31) 3 350 := ⟨at_347, rfl⟩
theorem d0_350 : DAt B0 350 (.iload 22) 2 352 := ⟨at_350, rfl⟩
theorem d0_352 : DAt B0 352 (.iconst 1) 1 353 := ⟨at_352, rfl⟩
theorem d0_353 : DAt B0 353 (.if_icmp .le 8) 3 356 := ⟨at_353, rfl⟩
theorem d0_356 : DAt B0 356 (.bipush (-2)) 2 358 := ⟨at_356, rfl⟩
theorem d0_358 : DAt B0 358 (.goto 20) 3 361 := ⟨at_358, rfl⟩
theorem d0_361 : DAt B0 361 (.iload 23) 2 363 := ⟨at_361, rfl⟩
theorem d0_363 : DAt B0 363 (.iconst 2) 1 364 := ⟨at_363, rfl⟩
theorem d0_364 : DAt B0 364 (.if_icmp .eq 8) 3 367 := ⟨at_364, rfl⟩
theorem d0_367 : DAt B0 367 (.iload 24) 2 369 := ⟨at_367, rfl⟩
theorem d0_369 : DAt B0 369 (.ifCond .eq 8) 3 372 := ⟨at_369, rfl⟩
theorem d0_372 : DAt B0 372 (.bipush (-4)) 2 374 := ⟨at_372, rfl⟩
theorem d0_374 : DAt B0 374 (.goto 4) 3 377 := ⟨at_374, rfl⟩
theorem d0_377 : DAt B0 377 (.iconst 0) 1 378 := ⟨at_377, rfl⟩
theorem d0_378 : DAt B0 378 (.istore 25) 2 380 := ⟨at_378, rfl⟩
theorem d0_380 : DAt B0 380 (.iload 25) 2 382 := ⟨at_380, rfl⟩
theorem d0_382 : DAt B0 382 (.ifCond .ne 354) 3 385 := ⟨at_382, rfl⟩
theorem d0_385 : DAt B0 385 (.iload 22) 2 387 := ⟨at_385, rfl⟩
theorem d0_387 : DAt B0 387 (.ifCond .ne 9) 3 390 := ⟨at_387, rfl⟩
theorem d0_390 : DAt B0 390 (.iconst 2) 1 391 := ⟨at_390, rfl⟩
theorem d0_391 : DAt B0 391 (.istore 9) 2 393 := ⟨at_391, rfl⟩
theorem d0_393 : DAt B0 393 (.goto 343) 3 396 := ⟨at_393, rfl⟩
theorem d0_396 : DAt B0 396 (.iconst 2) 1 397 := ⟨at_396, rfl⟩
theorem d0_397 : DAt B0 397 (.istore 10) 2 399 := ⟨at_397, rfl⟩
theorem d0_399 : DAt B0 399 (.goto 337) 3 402 := ⟨at_399, rfl⟩
theorem d0_402 : DAt B0 402 (.iload 17) 2 404 := ⟨at_402, rfl⟩
theorem d0_404 : DAt B0 404 (.iconst 4) 1 405 := ⟨at_404, rfl⟩
theorem d0_405 : DAt B0 405 (.if_icmp .eq 9) 3 408 := ⟨at_405, rfl⟩
theorem d0_408 : DAt B0 408 (.iload 17) 2 410 := ⟨at_408, rfl⟩
theorem d0_410 : DAt B0 410 (.iconst 5) 1 411 := ⟨at_410, rfl⟩
theorem d0_411 : DAt B0 411 (.if_icmp .ne 111) 3 414 := ⟨at_411, rfl⟩
theorem d0_414 : DAt B0 414 (.iload 17) 2 416 := ⟨at_414, rfl⟩
theorem d0_416 : DAt B0 416 (.iconst 4) 1 417 := ⟨at_416, rfl⟩
theorem d0_417 : DAt B0 417 (.if_icmp .ne 14) 3 420 := ⟨at_417, rfl⟩
theorem d0_420 : DAt B0 420 (.aload_n 2) 1 421 := ⟨at_420, rfl⟩
theorem d0_421 : DAt B0 421 (.iload 22) 2 423 := ⟨at_421, rfl⟩
theorem d0_423 : DAt B0 423 (.invokevirtual 59) 3 426 := ⟨at_423, rfl⟩
theorem d0_426 : DAt B0 426 (.istore 26) 2 428 := ⟨at_426, rfl⟩
theorem d0_428 : DAt B0 428 (.goto 11) 3 431 := ⟨at_428, rfl⟩
theorem d0_431 : DAt B0 431 (.aload_n 2) 1 432 := ⟨at_431, rfl⟩
theorem d0_432 : DAt B0 432 (.iload 22) 2 434 := ⟨at_432, rfl⟩
theorem d0_434 : DAt B0 434 (.invokevirtual 62) 3 437 := ⟨at_434, rfl⟩
theorem d0_437 : DAt B0 437 (.istore 26) 2 439 := ⟨at_437, rfl⟩
theorem d0_439 : DAt B0 439 (.iload 15) 2 441 := ⟨at_439, rfl⟩
theorem d0_441 : DAt B0 441 (.ifCond .eq 7) 3 444 := ⟨at_441, rfl⟩
theorem d0_444 : DAt B0 444 (.iconst (-1)) 1 445 := ⟨at_444, rfl⟩
theorem d0_445 : DAt B0 445 (.goto 36) 3 448 := ⟨at_445, rfl⟩
theorem d0_448 : DAt B0 448 (.iload 22) 2 450 := ⟨at_448, rfl⟩
theorem d0_450 : DAt B0 450 (.iconst 1) 1 451 := ⟨at_450, rfl⟩
theorem d0_451 : DAt B0 451 (.if_icmp .le 8) 3 454 := ⟨at_451, rfl⟩
theorem d0_454 : DAt B0 454 (.bipush (-2)) 2 456 := ⟨at_454, rfl⟩
theorem d0_456 : DAt B0 456 (.goto 25) 3 459 := ⟨at_456, rfl⟩
theorem d0_459 : DAt B0 459 (.iload 14) 2 461 := ⟨at_459, rfl⟩
theorem d0_461 : DAt B0 461 (.ifCond .eq 8) 3 464 := ⟨at_461, rfl⟩
theorem d0_464 : DAt B0 464 (.bipush (-3)) 2 466 := ⟨at_464, rfl⟩
theorem d0_466 : DAt B0 466 (.goto 15) 3 469 := ⟨at_466, rfl⟩
theorem d0_469 : DAt B0 469 (.iload 23) 2 471 := ⟨at_469, rfl⟩
theorem d0_471 : DAt B0 471 (.iconst 2) 1 472 := ⟨at_471, rfl⟩
theorem d0_472 : DAt B0 472 (.if_icmp .eq 8) 3 475 := ⟨at_472, rfl⟩
theorem d0_475 : DAt B0 475 (.bipush (-4)) 2 477 := ⟨at_475, rfl⟩
theorem d0_477 : DAt B0 477 (.goto 4) 3 480 := ⟨at_477, rfl⟩
theorem d0_480 : DAt B0 480 (.iconst 0) 1 481 := ⟨at_480, rfl⟩
theorem d0_481 : DAt B0 481 (.istore 25) 2 483 := ⟨at_481, rfl⟩
theorem d0_483 : DAt B0 483 (.iload 25) 2 485 := ⟨at_483, rfl⟩
theorem d0_485 : DAt B0 485 (.ifCond .ne 251) 3 488 := ⟨at_485, rfl⟩
theorem d0_488 : DAt B0 488 (.iload 22) 2 490 := ⟨at_488, rfl⟩
theorem d0_490 : DAt B0 490 (.ifCond .ne 17) 3 493 := ⟨at_490, rfl⟩
theorem d0_493 : DAt B0 493 (.iconst 1) 1 494 := ⟨at_493, rfl⟩
theorem d0_494 : DAt B0 494 (.istore 9) 2 496 := ⟨at_494, rfl⟩
theorem d0_496 : DAt B0 496 (.iload 17) 2 498 := ⟨at_496, rfl⟩
theorem d0_498 : DAt B0 498 (.iconst 5) 1 499 := ⟨at_498, rfl⟩
theorem d0_499 : DAt B0 499 (.if_icmp .ne 237) 3 502 := ⟨at_499, rfl⟩
theorem d0_502 : DAt B0 502 (.lconst 0) 1 503 := ⟨at_502, rfl⟩
theorem d0_503 : DAt B0 503 (.lstore_n 3) 1 504 := ⟨at_503, rfl⟩
theorem d0_504 : DAt B0 504 (.goto 232) 3 507 := ⟨at_504, rfl⟩
theorem d0_507 : DAt B0 507 (.iconst 1) 1 508 := ⟨at_507, rfl⟩
theorem d0_508 : DAt B0 508 (.istore 10) 2 510 := ⟨at_508, rfl⟩
theorem d0_510 : DAt B0 510 (.iload 17) 2 512 := ⟨at_510, rfl⟩
theorem d0_512 : DAt B0 512 (.iconst 5) 1 513 := ⟨at_512, rfl⟩
theorem d0_513 : DAt B0 513 (.if_icmp .ne 223) 3 516 := ⟨at_513, rfl⟩
theorem d0_516 : DAt B0 516 (.lconst 0) 1 517 := ⟨at_516, rfl⟩
theorem d0_517 : DAt B0 517 (.lstore 5) 2 519 := ⟨at_517, rfl⟩
theorem d0_519 : DAt B0 519 (.goto 217) 3 522 := ⟨at_519, rfl⟩
theorem d0_522 : DAt B0 522 (.iload 17) 2 524 := ⟨at_522, rfl⟩
theorem d0_524 : DAt B0 524 (.bipush 6) 2 526 := ⟨at_524, rfl⟩
theorem d0_526 : DAt B0 526 (.if_icmp .ne 77) 3 529 := ⟨at_526, rfl⟩
theorem d0_529 : DAt B0 529 (.aload_n 2) 1 530 := ⟨at_529, rfl⟩
theorem d0_530 : DAt B0 530 (.invokevirtual 65) 3 533 := ⟨at_530, rfl⟩
theorem d0_533 : DAt B0 533 (.istore 26) 2 535 := ⟨at_533, rfl⟩
theorem d0_535 : DAt B0 535 (.iload 15) 2 537 := ⟨at_535, rfl⟩
theorem d0_537 : DAt B0 537 (.ifCond .eq 7) 3 540 := ⟨at_537, rfl⟩
theorem d0_540 : DAt B0 540 (.iconst (-1)) 1 541 := ⟨at_540, rfl⟩
theorem d0_541 : DAt B0 541 (.goto 31) 3 544 := ⟨at_541, rfl⟩
theorem d0_544 : DAt B0 544 (.iload 14) 2 546 := ⟨at_544, rfl⟩
theorem d0_546 : DAt B0 546 (.ifCond .eq 8) 3 549 := ⟨at_546, rfl⟩
theorem d0_549 : DAt B0 549 (.bipush (-3)) 2 551 := ⟨at_549, rfl⟩
theorem d0_551 : DAt B0 551 (.goto 21) 3 554 := ⟨at_551, rfl⟩
theorem d0_554 : DAt B0 554 (.iload 9) 2 556 := ⟨at_554, rfl⟩
theorem d0_556 : DAt B0 556 (.iconst 1) 1 557 := ⟨at_556, rfl⟩
theorem d0_557 : DAt B0 557 (.if_icmp .eq 14) 3 560 := ⟨at_557, rfl⟩
theorem d0_560 : DAt B0 560 (.iload 10) 2 562 := ⟨at_560, rfl⟩
theorem d0_562 : DAt B0 562 (.iconst 1) 1 563 := ⟨at_562, rfl⟩
theorem d0_563 : DAt B0 563 (.if_icmp .eq 8) 3 566 := ⟨at_563, rfl⟩
theorem d0_566 : DAt B0 566 (.bipush (-4)) 2 568 := ⟨at_566, rfl⟩
theorem d0_568 : DAt B0 568 (.goto 4) 3 571 := ⟨at_568, rfl⟩
theorem d0_571 : DAt B0 571 (.iconst 0) 1 572 := ⟨at_571, rfl⟩
theorem d0_572 : DAt B0 572 (.istore 25) 2 574 := ⟨at_572, rfl⟩
theorem d0_574 : DAt B0 574 (.iload 25) 2 576 := ⟨at_574, rfl⟩
theorem d0_576 : DAt B0 576 (.ifCond .ne 160) 3 579 := ⟨at_576, rfl⟩
theorem d0_579 : DAt B0 579 (.iload 9) 2 581 := ⟨at_579, rfl⟩
theorem d0_581 : DAt B0 581 (.iconst 1) 1 582 := ⟨at_581, rfl⟩
theorem d0_582 : DAt B0 582 (.if_icmp .ne 9) 3 585 := ⟨at_582, rfl⟩
theorem d0_585 : DAt B0 585 (.lload 5) 2 587 := ⟨at_585, rfl⟩
theorem d0_587 : DAt B0 587 (.lstore_n 3) 1 588 := ⟨at_587, rfl⟩
theorem d0_588 : DAt B0 588 (.goto 6) 3 591 := ⟨at_588, rfl⟩
theorem d0_591 : DAt B0 591 (.lload_n 3) 1 592 := ⟨at_591, rfl⟩
theorem d0_592 : DAt B0 592 (.lstore 5) 2 594 := ⟨at_592, rfl⟩
theorem d0_594 : DAt B0 594 (.iconst 0) 1 595 := ⟨at_594, rfl⟩
theorem d0_595 : DAt B0 595 (.istore 9) 2 597 := ⟨at_595, rfl⟩
theorem d0_597 : DAt B0 597 (.iconst 0) 1 598 := ⟨at_597, rfl⟩
theorem d0_598 : DAt B0 598 (.istore 10) 2 600 := ⟨at_598, rfl⟩
theorem d0_600 : DAt B0 600 (.goto 136) 3 603 := ⟨at_600, rfl⟩
theorem d0_603 : DAt B0 603 (.aload_n 2) 1 604 := ⟨at_603, rfl⟩
theorem d0_604 : DAt B0 604 (.invokevirtual 68) 3 607 := ⟨at_604, rfl⟩
theorem d0_607 : DAt B0 607 (.istore 26) 2 609 := ⟨at_607, rfl⟩
theorem d0_609 : DAt B0 609 (.iload 15) 2 611 := ⟨at_609, rfl⟩
theorem d0_611 : DAt B0 611 (.ifCond .eq 7) 3 614 := ⟨at_611, rfl⟩
theorem d0_614 : DAt B0 614 (.iconst (-1)) 1 615 := ⟨at_614, rfl⟩
theorem d0_615 : DAt B0 615 (.goto 14) 3 618 := ⟨at_615, rfl⟩
theorem d0_618 : DAt B0 618 (.iload 14) 2 620 := ⟨at_618, rfl⟩
theorem d0_620 : DAt B0 620 (.ifCond .ne 8) 3 623 := ⟨at_620, rfl⟩
theorem d0_623 : DAt B0 623 (.bipush (-5)) 2 625 := ⟨at_623, rfl⟩
theorem d0_625 : DAt B0 625 (.goto 4) 3 628 := ⟨at_625, rfl⟩
theorem d0_628 : DAt B0 628 (.iconst 0) 1 629 := ⟨at_628, rfl⟩
theorem d0_629 : DAt B0 629 (.istore 25) 2 631 := ⟨at_629, rfl⟩
theorem d0_631 : DAt B0 631 (.iload 15) 2 633 := ⟨at_631, rfl⟩
theorem d0_633 : DAt B0 633 (.ifCond .ne 103) 3 636 := ⟨at_633, rfl⟩
theorem d0_636 : DAt B0 636 (.iload 14) 2 638 := ⟨at_636, rfl⟩
theorem d0_638 : DAt B0 638 (.ifCond .eq 98) 3 641 := ⟨at_638, rfl⟩
theorem d0_641 : DAt B0 641 (.iload 13) 2 643 := ⟨at_641, rfl⟩
theorem d0_643 : DAt B0 643 (.ifCond .ne 12) 3 646 := ⟨at_643, rfl⟩
theorem d0_646 : DAt B0 646 (.iload 9) 2 648 := ⟨at_646, rfl⟩
theorem d0_648 : DAt B0 648 (.iconst 2) 1 649 := ⟨at_648, rfl⟩
theorem d0_649 : DAt B0 649 (.if_icmp .ne 6) 3 652 := ⟨at_649, rfl⟩
theorem d0_652 : DAt B0 652 (.iconst 1) 1 653 := ⟨at_652, rfl⟩
theorem d0_653 : DAt B0 653 (.istore 13) 2 655 := ⟨at_653, rfl⟩
theorem d0_655 : DAt B0 655 (.iload 13) 2 657 := ⟨at_655, rfl⟩
theorem d0_657 : DAt B0 657 (.iconst 1) 1 658 := ⟨at_657, rfl⟩
theorem d0_658 : DAt B0 658 (.if_icmp .ne 12) 3 661 := ⟨at_658, rfl⟩
theorem d0_661 : DAt B0 661 (.iload 10) 2 663 := ⟨at_661, rfl⟩
theorem d0_663 : DAt B0 663 (.iconst 2) 1 664 := ⟨at_663, rfl⟩
theorem d0_664 : DAt B0 664 (.if_icmp .ne 6) 3 667 := ⟨at_664, rfl⟩
theorem d0_667 : DAt B0 667 (.iconst 2) 1 668 := ⟨at_667, rfl⟩
theorem d0_668 : DAt B0 668 (.istore 13) 2 670 := ⟨at_668, rfl⟩
theorem d0_670 : DAt B0 670 (.iload 13) 2 672 := ⟨at_670, rfl⟩
theorem d0_672 : DAt B0 672 (.ifCond .ne 21) 3 675 := ⟨at_672, rfl⟩
theorem d0_675 : DAt B0 675 (.lload_n 3) 1 676 := ⟨at_675, rfl⟩
theorem d0_676 : DAt B0 676 (.iload 11) 2 678 := ⟨at_676, rfl⟩
theorem d0_678 : DAt B0 678 (.iload 12) 2 680 := ⟨at_678, rfl⟩
theorem d0_680 : DAt B0 680 (.invokestatic 71) 3 683 := ⟨at_680, rfl⟩
theorem d0_683 : DAt B0 683 (.lstore_n 3) 1 684 := ⟨at_683, rfl⟩
theorem d0_684 : DAt B0 684 (.iconst 1) 1 685 := ⟨at_684, rfl⟩
theorem d0_685 : DAt B0 685 (.istore 13) 2 687 := ⟨at_685, rfl⟩
theorem d0_687 : DAt B0 687 (.iconst 1) 1 688 := ⟨at_687, rfl⟩
theorem d0_688 : DAt B0 688 (.istore 25) 2 690 := ⟨at_688, rfl⟩
theorem d0_690 : DAt B0 690 (.goto 46) 3 693 := ⟨at_690, rfl⟩
theorem d0_693 : DAt B0 693 (.iload 13) 2 695 := ⟨at_693, rfl⟩
theorem d0_695 : DAt B0 695 (.iconst 1) 1 696 := ⟨at_695, rfl⟩
theorem d0_696 : DAt B0 696 (.if_icmp .ne 23) 3 699 := ⟨at_696, rfl⟩
theorem d0_699 : DAt B0 699 (.lload 5) 2 701 := ⟨at_699, rfl⟩
theorem d0_701 : DAt B0 701 (.iload 11) 2 703 := ⟨at_701, rfl⟩
theorem d0_703 : DAt B0 703 (.iload 12) 2 705 := ⟨at_703, rfl⟩
theorem d0_705 : DAt B0 705 (.invokestatic 71) 3 708 := ⟨at_705, rfl⟩
theorem d0_708 : DAt B0 708 (.lstore 5) 2 710 := ⟨at_708, rfl⟩
theorem d0_710 : DAt B0 710 (.iconst 2) 1 711 := ⟨at_710, rfl⟩
theorem d0_711 : DAt B0 711 (.istore 13) 2 713 := ⟨at_711, rfl⟩
theorem d0_713 : DAt B0 713 (.iconst 2) 1 714 := ⟨at_713, rfl⟩
theorem d0_714 : DAt B0 714 (.istore 25) 2 716 := ⟨at_714, rfl⟩
theorem d0_716 : DAt B0 716 (.goto 20) 3 719 := ⟨at_716, rfl⟩
theorem d0_719 : DAt B0 719 (.lload 7) 2 721 := ⟨at_719, rfl⟩
theorem d0_721 : DAt B0 721 (.iload 11) 2 723 := ⟨at_721, rfl⟩
theorem d0_723 : DAt B0 723 (.iload 12) 2 725 := ⟨at_723, rfl⟩
theorem d0_725 : DAt B0 725 (.invokestatic 71) 3 728 := ⟨at_725, rfl⟩
theorem d0_728 : DAt B0 728 (.lstore 7) 2 730 := ⟨at_728, rfl⟩
theorem d0_730 : DAt B0 730 (.iconst 0) 1 731 := ⟨at_730, rfl⟩
theorem d0_731 : DAt B0 731 (.istore 14) 2 733 := ⟨at_731, rfl⟩
theorem d0_733 : DAt B0 733 (.iconst 3) 1 734 := ⟨at_733, rfl⟩
theorem d0_734 : DAt B0 734 (.istore 25) 2 736 := ⟨at_734, rfl⟩
theorem d0_736 : DAt B0 736 (.iload 26) 2 738 := ⟨at_736, rfl⟩
theorem d0_738 : DAt B0 738 (.iload 25) 2 740 := ⟨at_738, rfl⟩
theorem d0_740 : DAt B0 740 (.if_icmp .eq 5) 3 743 := ⟨at_740, rfl⟩
theorem d0_743 : DAt B0 743 (.iconst 0) 1 744 := ⟨at_743, rfl⟩
theorem d0_744 : DAt B0 744 (.ireturn) 1 745 := ⟨at_744, rfl⟩
theorem d0_745 : DAt B0 745 (.aload_n 2) 1 746 := ⟨at_745, rfl⟩
theorem d0_746 : DAt B0 746 (.lload_n 3) 1 747 := ⟨at_746, rfl⟩
theorem d0_747 : DAt B0 747 (.lload 5) 2 749 := ⟨at_747, rfl⟩
theorem d0_749 : DAt B0 749 (.lload 7) 2 751 := ⟨at_749, rfl⟩
theorem d0_751 : DAt B0 751 (.iload 9) 2 753 := ⟨at_751, rfl⟩
theorem d0_753 : DAt B0 753 (.iload 10) 2 755 := ⟨at_753, rfl⟩
theorem d0_755 : DAt B0 755 (.iload 14) 2 757 := ⟨at_755, rfl⟩
theorem d0_757 : DAt B0 757 (.iload 11) 2 759 := ⟨at_757, rfl⟩
theorem d0_759 : DAt B0 759 (.iload 13) 2 761 := ⟨at_759, rfl⟩
theorem d0_761 : DAt B0 761 (.iload 15) 2 763 := ⟨at_761, rfl⟩
theorem d0_763 : DAt B0 763 (.invokestatic 75) 3 766 := ⟨at_763, rfl⟩
theorem d0_766 : DAt B0 766 (.ifCond .ne 5) 3 769 := ⟨at_766, rfl⟩
theorem d0_769 : DAt B0 769 (.iconst 0) 1 770 := ⟨at_769, rfl⟩
theorem d0_770 : DAt B0 770 (.ireturn) 1 771 := ⟨at_770, rfl⟩
theorem d0_771 : DAt B0 771 (.iinc 16 3) 3 774 := ⟨at_771, rfl⟩
theorem d0_774 : DAt B0 774 (.goto (-706)) 3 777 := ⟨at_774, rfl⟩
theorem d0_777 : DAt B0 777 (.iconst 1) 1 778 := ⟨at_777, rfl⟩
theorem d0_778 : DAt B0 778 (.ireturn) 1 779 := ⟨at_778, rfl⟩
theorem ar1 : arity B1 3 := ⟨[.int, .int, .int], none, by decide +kernel, rfl⟩
theorem ar2 : arity B2 3 := ⟨[.int, .int, .int], some .int, by decide +kernel, rfl⟩
theorem ar3 : arity B3 0 := ⟨[], some .int, by decide +kernel, rfl⟩
theorem ar4 : arity B4 0 := ⟨[], none, by decide +kernel, rfl⟩
theorem ar5 : arity B5 10 := ⟨[(.object "MirrorResync"), .long, .long, .long, .int, .int, .boolean, .int, .int, .boolean], some .boolean, by decide +kernel, rfl⟩
theorem ar6 : arity B6 1 := ⟨[.int], some .int, by decide +kernel, rfl⟩
theorem ar7 : arity B7 1 := ⟨[.int], some .boolean, by decide +kernel, rfl⟩
theorem ar8 : arity B8 0 := ⟨[], some .boolean, by decide +kernel, rfl⟩
theorem ar9 : arity B9 0 := ⟨[], some .int, by decide +kernel, rfl⟩
theorem ar10 : arity B10 0 := ⟨[], some .int, by decide +kernel, rfl⟩
theorem ar11 : arity B11 1 := ⟨[.int], some .int, by decide +kernel, rfl⟩
theorem ar12 : arity B12 2 := ⟨[.int, .int], some .int, by decide +kernel, rfl⟩
theorem ar13 : arity B13 1 := ⟨[.int], some .int, by decide +kernel, rfl⟩
theorem ar14 : arity B14 1 := ⟨[.int], some .boolean, by decide +kernel, rfl⟩
theorem ar15 : arity B15 2 := ⟨[.long, .int], some .int, by decide +kernel, rfl⟩
theorem ar16 : arity B16 2 := ⟨[.int, .int], some .int, by decide +kernel, rfl⟩
theorem ar17 : arity B17 1 := ⟨[.int], some .int, by decide +kernel, rfl⟩
theorem ar18 : arity B18 0 := ⟨[], some .int, by decide +kernel, rfl⟩
theorem ar19 : arity B19 1 := ⟨[.int], none, by decide +kernel, rfl⟩
theorem ar20 : arity B20 0 := ⟨[], some .int, by decide +kernel, rfl⟩
theorem ar21 : arity B21 1 := ⟨[.int], some .int, by decide +kernel, rfl⟩
theorem ar22 : arity B22 1 := ⟨[.int], some .int, by decide +kernel, rfl⟩
theorem ar23 : arity B23 3 := ⟨[.long, .int, .int], some .long, by decide +kernel, rfl⟩
theorem ar24 : arity B24 0 := ⟨[], some .int, by decide +kernel, rfl⟩
theorem ar25 : arity B25 0 := ⟨[], some .int, by decide +kernel, rfl⟩
theorem ar26 : arity B26 1 := ⟨[.int], some .int, by decide +kernel, rfl⟩
theorem ar27 : arity B27 2 := ⟨[.int, .int], none, by decide +kernel, rfl⟩
theorem ar28 : arity B28 0 := ⟨[], none, by decide +kernel, rfl⟩
theorem ar29 : arity B29 1 := ⟨[.int], none, by decide +kernel, rfl⟩
theorem ar30 : arity B30 0 := ⟨[], none, by decide +kernel, rfl⟩
theorem ar31 : arity B31 0 := ⟨[], none, by decide +kernel, rfl⟩
theorem ar32 : arity B32 1 := ⟨[.int], none, by decide +kernel, rfl⟩
theorem ar33 : arity B33 0 := ⟨[], some .boolean, by decide +kernel, rfl⟩
theorem ar34 : arity B34 0 := ⟨[], none, by decide +kernel, rfl⟩
theorem cw1 : code_w B1 := ⟨mem1 5 rfl, mem1 2 rfl, by decide⟩
theorem cw2 : code_w B2 := ⟨mem1 25 rfl, mem1 2 rfl, by decide⟩
theorem cw3 : code_w B3 := ⟨mem1 48 rfl, mem1 2 rfl, by decide⟩
theorem cw4 : code_w B4 := ⟨mem1 52 rfl, mem1 2 rfl, by decide⟩
theorem cw5 : code_w B5 := ⟨mem1 56 rfl, mem1 55 rfl, by decide⟩
theorem cw6 : code_w B6 := ⟨mem1 61 rfl, mem1 2 rfl, by decide⟩
theorem cw7 : code_w B7 := ⟨mem1 65 rfl, mem1 2 rfl, by decide⟩
theorem cw8 : code_w B8 := ⟨mem1 70 rfl, mem1 2 rfl, by decide⟩
theorem cw9 : code_w B9 := ⟨mem1 75 rfl, mem1 2 rfl, by decide⟩
theorem cw10 : code_w B10 := ⟨mem1 80 rfl, mem1 2 rfl, by decide⟩
theorem cw11 : code_w B11 := ⟨mem1 85 rfl, mem1 2 rfl, by decide⟩
theorem cw12 : code_w B12 := ⟨mem1 90 rfl, mem1 2 rfl, by decide⟩
theorem cw13 : code_w B13 := ⟨mem1 95 rfl, mem1 2 rfl, by decide⟩
theorem cw14 : code_w B14 := ⟨mem1 99 rfl, mem1 2 rfl, by decide⟩
theorem cw15 : code_w B15 := ⟨mem1 102 rfl, mem1 55 rfl, by decide⟩
theorem cw16 : code_w B16 := ⟨mem1 108 rfl, mem1 2 rfl, by decide⟩
theorem cw17 : code_w B17 := ⟨mem1 113 rfl, mem1 2 rfl, by decide⟩
theorem cw18 : code_w B18 := ⟨mem1 118 rfl, mem1 2 rfl, by decide⟩
theorem cw19 : code_w B19 := ⟨mem1 123 rfl, mem1 2 rfl, by decide⟩
theorem cw20 : code_w B20 := ⟨mem1 128 rfl, mem1 2 rfl, by decide⟩
theorem cw21 : code_w B21 := ⟨mem1 133 rfl, mem1 2 rfl, by decide⟩
theorem cw22 : code_w B22 := ⟨mem1 137 rfl, mem1 2 rfl, by decide⟩
theorem cw23 : code_w B23 := ⟨mem1 140 rfl, mem1 55 rfl, by decide⟩
theorem cw24 : code_w B24 := ⟨mem1 146 rfl, mem1 2 rfl, by decide⟩
theorem cw25 : code_w B25 := ⟨mem1 150 rfl, mem1 2 rfl, by decide⟩
theorem cw26 : code_w B26 := ⟨mem1 155 rfl, mem1 2 rfl, by decide⟩
theorem cw27 : code_w B27 := ⟨mem1 159 rfl, mem1 2 rfl, by decide⟩
theorem cw28 : code_w B28 := ⟨mem1 163 rfl, mem1 2 rfl, by decide⟩
theorem cw29 : code_w B29 := ⟨mem1 167 rfl, mem1 2 rfl, by decide⟩
theorem cw30 : code_w B30 := ⟨mem1 171 rfl, mem1 2 rfl, by decide⟩
theorem cw31 : code_w B31 := ⟨mem1 175 rfl, mem1 2 rfl, by decide⟩
theorem cw32 : code_w B32 := ⟨mem1 179 rfl, mem1 2 rfl, by decide⟩
theorem cw33 : code_w B33 := ⟨mem1 183 rfl, mem1 2 rfl, by decide⟩
theorem cw34 : code_w B34 := ⟨mem1 187 rfl, mem1 2 rfl, by decide⟩
theorem rk0_3_0 : room_ok B0 B3 0 := by decide
theorem rk0_5_0 : room_ok B0 B5 0 := by decide
theorem rk0_16_0 : room_ok B0 B16 0 := by decide
theorem rk0_17_0 : room_ok B0 B17 0 := by decide
theorem rk0_18_0 : room_ok B0 B18 0 := by decide
theorem rk0_20_0 : room_ok B0 B20 0 := by decide
theorem rk0_21_0 : room_ok B0 B21 0 := by decide
theorem rk0_23_0 : room_ok B0 B23 0 := by decide
theorem rk0_24_0 : room_ok B0 B24 0 := by decide
theorem rk0_26_0 : room_ok B0 B26 0 := by decide
theorem rk1_2_1 : room_ok B1 B2 1 := by decide
theorem rk3_4_0 : room_ok B3 B4 0 := by decide
theorem rk5_6_0 : room_ok B5 B6 0 := by decide
theorem rk5_8_0 : room_ok B5 B8 0 := by decide
theorem rk5_9_0 : room_ok B5 B9 0 := by decide
theorem rk5_10_0 : room_ok B5 B10 0 := by decide
theorem rk5_11_0 : room_ok B5 B11 0 := by decide
theorem rk5_12_0 : room_ok B5 B12 0 := by decide
theorem rk5_13_0 : room_ok B5 B13 0 := by decide
theorem rk5_15_0 : room_ok B5 B15 0 := by decide
theorem rk5_15_1 : room_ok B5 B15 1 := by decide
theorem rk6_7_0 : room_ok B6 B7 0 := by decide
theorem rk11_14_0 : room_ok B11 B14 0 := by decide
theorem rk12_7_0 : room_ok B12 B7 0 := by decide
theorem rk12_14_0 : room_ok B12 B14 0 := by decide
theorem rk13_14_0 : room_ok B13 B14 0 := by decide
theorem rk16_14_0 : room_ok B16 B14 0 := by decide
theorem rk16_19_0 : room_ok B16 B19 0 := by decide
theorem rk17_7_0 : room_ok B17 B7 0 := by decide
theorem rk20_31_0 : room_ok B20 B31 0 := by decide
theorem rk21_22_0 : room_ok B21 B22 0 := by decide
theorem rk22_7_0 : room_ok B22 B7 0 := by decide
theorem rk24_25_0 : room_ok B24 B25 0 := by decide
theorem rk24_27_0 : room_ok B24 B27 0 := by decide
theorem rk24_28_0 : room_ok B24 B28 0 := by decide
theorem rk26_22_0 : room_ok B26 B22 0 := by decide
theorem rk26_29_0 : room_ok B26 B29 0 := by decide
theorem rk26_30_0 : room_ok B26 B30 0 := by decide
theorem rk30_19_0 : room_ok B30 B19 0 := by decide
theorem rk31_4_0 : room_ok B31 B4 0 := by decide
theorem rk31_32_0 : room_ok B31 B32 0 := by decide
theorem rk31_33_0 : room_ok B31 B33 0 := by decide
theorem rk31_34_0 : room_ok B31 B34 0 := by decide
def X_clamp (i0 : Int32) (i1 : Int32) (i2 : Int32) : Option (Int32) :=
  if i0 < i1 then
    some i1
  else
    if i2 < i0 then
      some i2
    else
      some i0
set_option maxRecDepth 65536 in
set_option maxHeartbeats 4000000 in
theorem X_clamp_p {C : Ctx} {G : AH} {res : Int32} (i0 : Int32) (i1 : Int32) (i2 : Int32) (hf : X_clamp i0 i1 i2 = some res) : Runs C B2 0 0 0 [vi i0, vi i1, vi i2] [] G (Ans (some (.int res)) G) := by
  delta X_clamp at hf
  refine Runs.iloadN d2_0 rfl <| Runs.iloadN d2_1 rfl <| ?_
  refine ite_el hf (fun hc1 hf => ?_) (fun hc1 hf => ?_)
  · refine Runs.icN d2_2 (tlt hc1).2.1 <| ?_
    obtain rfl := Option.some.inj hf
    exact Runs.iloadN d2_5 rfl <| Runs.retI d2_6 rfl ⟨by decide, by decide⟩ ⟨rfl, rfl⟩
  · refine Runs.icY (pc' := 7) d2_2 (flt hc1).2.1 (by decide) <| ?_
    refine Runs.iloadN d2_7 rfl <| Runs.iloadN d2_8 rfl <| ?_
    refine ite_el hf (fun hc2 hf => ?_) (fun hc2 hf => ?_)
    · refine Runs.icN d2_9 (tlt hc2).2.2.2 <| ?_
      obtain rfl := Option.some.inj hf
      exact Runs.iloadN d2_12 rfl <| Runs.retI d2_13 rfl ⟨by decide, by decide⟩ ⟨rfl, rfl⟩
    · refine Runs.icY (pc' := 14) d2_9 (flt hc2).2.2.2 (by decide) <| ?_
      obtain rfl := Option.some.inj hf
      exact Runs.iloadN d2_14 rfl <| Runs.retI d2_15 rfl ⟨by decide, by decide⟩ ⟨rfl, rfl⟩
theorem X_clamp_pay {C : Ctx} {G : AH} {res : Int32} {i0 : Int32} {i1 : Int32} {i2 : Int32} (hf : X_clamp i0 i1 i2 = some res) : Pays C B2 [.int i0, .int i1, .int i2] G (Ans (some (.int res)) G) :=
  Pays.of pnK (Nat.le_of_ble_eq_true rfl) (P := [vi i0, vi i1, vi i2]) 0 rfl (X_clamp_p i0 i1 i2 hf)
def X_init (i1 : Int32) (i2 : Int32) (i3 : Int32) : Option (Rec) :=
  (X_clamp i1 (8 : Int32) (32 : Int32)).bind fun r1 =>
  (X_clamp i2 (1 : Int32) (4 : Int32)).bind fun r3 =>
  (X_clamp i3 (0 : Int32) (4 : Int32)).bind fun r5 =>
  dvz r3 <|
  chk (2 : Int32) (0 : Int32) <|
  chk (2 : Int32) (1 : Int32) <|
  some (sI (sI (sI (sI (sI (sA (sA (sI (sI (sI (sI zrec 0 r1) 1 r3) 2 r5) 3 (((r1 + r3) - (1 : Int32)) / r3)) 2 (0 : Int32) (0 : Int32)) 2 (1 : Int32) (0 : Int32)) 4 (0 : Int32)) 5 (0 : Int32)) 6 (-1 : Int32)) 7 (0 : Int32)) 8 (-1 : Int32))
set_option maxRecDepth 65536 in
set_option maxHeartbeats 4000000 in
theorem X_init_p {C : Ctx} {a : Nat} {H : List (Nat × Nat × Rec)} {res : Rec} (i1 : Int32) (i2 : Int32) (i3 : Int32) (hf : X_init i1 i2 i3 = some res) : Runs C B1 0 0 0 [vr a, vi i1, vi i2, vi i3] [] (a + 1, (a, 0, zrec) :: H) (Ans none (a + 1 + 6, (a, 6, res) :: H)) := by
  delta X_init at hf
  refine Runs.aloadN d1_0 rfl <| Runs.initO (W := 0) d1_1 w6 w7 w8 rfl (by decide) <| Runs.aloadN d1_4 rfl <| Runs.bipush d1_5 cb_64 <| Runs.newArr (j' := 1) (top' := a + 1 + 1) (k' := 1) (n' := 64) d1_7 d1_9 fA_0 w10 rfl w9 (Or.inl w11) rfl (by decide) ⟨by decide, by decide⟩ ⟨fun _ => rfl, fun _ => rfl⟩ rfl rfl rfl (by decide) <| Runs.aloadN d1_12 rfl <| Runs.bipush d1_13 cb_32 <| Runs.newArr (j' := 2) (top' := a + 1 + 2) (k' := 2) (n' := 96) d1_15 d1_17 fA_1 w12 rfl w9 (Or.inl w13) rfl (by decide) ⟨by decide, by decide⟩ ⟨fun _ => rfl, fun _ => rfl⟩ rfl rfl rfl (by decide) <| Runs.aloadN d1_20 rfl <| Runs.iconst d1_21 ci_2 <| Runs.newArr (j' := 3) (top' := a + 1 + 3) (k' := 3) (n' := 98) d1_22 d1_24 fA_2 w14 rfl w9 (Or.inl w15) rfl (by decide) ⟨by decide, by decide⟩ ⟨fun _ => rfl, fun _ => rfl⟩ rfl rfl rfl (by decide) <| Runs.aloadN d1_27 rfl <| ?_
  refine Runs.bipush d1_28 cb_32 <| Runs.newArr (j' := 4) (top' := a + 1 + 4) (k' := 4) (n' := 130) d1_30 d1_32 fA_3 w17 rfl w16 (Or.inl w18) rfl (by decide) ⟨by decide, by decide⟩ ⟨fun _ => rfl, fun _ => rfl⟩ rfl rfl rfl (by decide) <| Runs.aloadN d1_35 rfl <| Runs.bipush d1_36 cb_32 <| Runs.newArr (j' := 5) (top' := a + 1 + 5) (k' := 5) (n' := 162) d1_38 d1_40 fA_4 w19 rfl w16 (Or.inl w20) rfl (by decide) ⟨by decide, by decide⟩ ⟨fun _ => rfl, fun _ => rfl⟩ rfl rfl rfl (by decide) <| Runs.aloadN d1_43 rfl <| Runs.bipush d1_44 cb_32 <| Runs.newArr (j' := 6) (top' := a + 1 + 6) (k' := 6) (n' := 194) d1_46 d1_48 fA_5 w21 rfl w9 (Or.inl w22) rfl (by decide) ⟨by decide, by decide⟩ ⟨fun _ => rfl, fun _ => rfl⟩ rfl rfl rfl (by decide) <| Runs.aloadN d1_51 rfl <| Runs.iloadN d1_52 rfl <| Runs.bipush d1_53 cb_8 <| Runs.bipush d1_55 cb_32 <| ?_
  refine bind_el hf fun r1 hg2 hf => ?_
  refine Runs.callS (N := B2) (W := 1) (as := [.int i1, .int (8 : Int32), .int (32 : Int32)]) (S' := [.ref a]) d1_57 w23 w24 cw2 ar2 rk1_2_1 (by decide) rfl rfl (X_clamp_pay hg2) <| ans1 <| Runs.putI d1_60 w26 fS_0 (Or.inl w27) <| Runs.aloadN d1_63 rfl <| Runs.iloadN d1_64 rfl <| Runs.iconst d1_65 ci_1 <| Runs.iconst d1_66 ci_4 <| ?_
  refine bind_el hf fun r3 hg4 hf => ?_
  refine Runs.callS (N := B2) (W := 1) (as := [.int i2, .int (1 : Int32), .int (4 : Int32)]) (S' := [.ref a]) d1_67 w23 w24 cw2 ar2 rk1_2_1 (by decide) rfl rfl (X_clamp_pay hg4) <| ans1 <| Runs.putI d1_70 w28 fS_1 (Or.inl w29) <| Runs.aloadN d1_73 rfl <| Runs.iloadN d1_74 rfl <| Runs.iconst d1_75 ci_0 <| Runs.iconst d1_76 ci_4 <| ?_
  refine bind_el hf fun r5 hg6 hf => ?_
  refine Runs.callS (N := B2) (W := 1) (as := [.int i3, .int (0 : Int32), .int (4 : Int32)]) (S' := [.ref a]) d1_77 w23 w24 cw2 ar2 rk1_2_1 (by decide) rfl rfl (X_clamp_pay hg6) <| ans1 <| Runs.putI d1_80 w30 fS_2 (Or.inl w31) <| Runs.aloadN d1_83 rfl <| Runs.aloadN d1_84 rfl <| Runs.getI d1_85 w26 fS_0 <| Runs.aloadN d1_88 rfl <| Runs.getI d1_89 w28 fS_1 <| Runs.iadd d1_92 <| Runs.iconst d1_93 ci_1 <| Runs.isub d1_94 <| Runs.aloadN d1_95 rfl <| Runs.getI d1_96 w28 fS_1 <| ?_
  refine dvz_el hf fun hz7 hf => ?_
  refine Runs.idiv d1_99 hz7 <| Runs.putI d1_100 w32 fS_3 (Or.inl w33) <| Runs.aloadN d1_103 rfl <| Runs.getA d1_104 fA_2 w14 (by decide) <| Runs.iconst d1_107 ci_0 <| Runs.iconst d1_108 ci_0 <| ?_
  refine chk_el hf fun hi8 hf => ?_
  refine Runs.iastoreA d1_109 fA_2 (by decide) hi8 <| Runs.aloadN d1_110 rfl <| Runs.getA d1_111 fA_2 w14 (by decide) <| Runs.iconst d1_114 ci_1 <| Runs.iconst d1_115 ci_0 <| ?_
  refine chk_el hf fun hi9 hf => ?_
  refine Runs.iastoreA d1_116 fA_2 (by decide) hi9 <| Runs.aloadN d1_117 rfl <| Runs.iconst d1_118 ci_0 <| Runs.putZ (y := (0 : Int32)) d1_119 w34 fS_4 (Or.inl w35) rfl <| Runs.aloadN d1_122 rfl <| Runs.iconst d1_123 ci_0 <| Runs.putZ (y := (0 : Int32)) d1_124 w36 fS_5 (Or.inl w37) rfl <| Runs.aloadN d1_127 rfl <| Runs.iconst d1_128 ci_m1 <| Runs.putI d1_129 w38 fS_6 (Or.inl w39) <| Runs.aloadN d1_132 rfl <| Runs.iconst d1_133 ci_0 <| ?_
  obtain rfl := Option.some.inj hf
  exact Runs.putI d1_134 w40 fS_7 (Or.inl w41) <| Runs.aloadN d1_137 rfl <| Runs.iconst d1_138 ci_m1 <| Runs.putI d1_139 w42 fS_8 (Or.inl w43) <| Runs.retV d1_142 rfl ⟨by decide, by decide⟩ ⟨rfl, rfl⟩
theorem X_init_pay {C : Ctx} {a : Nat} {H : List (Nat × Nat × Rec)} {res : Rec} {i1 : Int32} {i2 : Int32} {i3 : Int32} (hf : X_init i1 i2 i3 = some res) : Pays C B1 [.ref a, .int i1, .int i2, .int i3] (a + 1, (a, 0, zrec) :: H) (Ans none (a + 1 + 6, (a, 6, res) :: H)) :=
  Pays.of pnK (Nat.le_of_ble_eq_true rfl) (P := [vr a, vi i1, vi i2, vi i3]) 0 rfl (X_init_p i1 i2 i3 hf)
def X_validBlock (ob : Rec) (i1 : Int32) : Option (Int32) :=
  if i1 < (0 : Int32) then
    some (0 : Int32)
  else
    if i1 < (gI ob 0) then
      some (1 : Int32)
    else
      some (0 : Int32)
set_option maxRecDepth 65536 in
set_option maxHeartbeats 4000000 in
theorem X_validBlock_p {C : Ctx} {top : Nat} {a : Nat} {H : List (Nat × Nat × Rec)} {ob : Rec} {res : Int32} (i1 : Int32) (hf : X_validBlock ob i1 = some res) : Runs C B14 0 0 0 [vr a, vi i1] [] (top, (a, 6, ob) :: H) (Ans (some (.int res)) (top, (a, 6, ob) :: H)) := by
  delta X_validBlock at hf
  refine Runs.iloadN d14_0 rfl <| ?_
  refine ite_el hf (fun hc1 hf => ?_) (fun hc1 hf => ?_)
  · refine Runs.ifY (pc' := 16) d14_1 (tlt hc1).1 (by decide) <| ?_
    obtain rfl := Option.some.inj hf
    exact Runs.iconst d14_16 ci_0 <| Runs.retZ (y := (0 : Int32)) d14_17 rfl ⟨by decide, by decide⟩ rfl ⟨rfl, rfl⟩
  · refine Runs.ifN d14_1 (flt hc1).1 <| ?_
    refine Runs.iloadN d14_4 rfl <| Runs.aloadN d14_5 rfl <| Runs.getI d14_6 w26 fS_0 <| ?_
    refine ite_el hf (fun hc2 hf => ?_) (fun hc2 hf => ?_)
    · refine Runs.icN d14_9 (tlt hc2).2.1 <| ?_
      obtain rfl := Option.some.inj hf
      exact Runs.iconst d14_12 ci_1 <| Runs.goto (pc' := 17) d14_13 (by decide) <| Runs.retZ (y := (1 : Int32)) d14_17 rfl ⟨by decide, by decide⟩ rfl ⟨rfl, rfl⟩
    · refine Runs.icY (pc' := 16) d14_9 (flt hc2).2.1 (by decide) <| ?_
      obtain rfl := Option.some.inj hf
      exact Runs.iconst d14_16 ci_0 <| Runs.retZ (y := (0 : Int32)) d14_17 rfl ⟨by decide, by decide⟩ rfl ⟨rfl, rfl⟩
theorem X_validBlock_pay {C : Ctx} {top : Nat} {a : Nat} {H : List (Nat × Nat × Rec)} {ob : Rec} {res : Int32} {i1 : Int32} (hf : X_validBlock ob i1 = some res) : Pays C B14 [.ref a, .int i1] (top, (a, 6, ob) :: H) (Ans (some (.int res)) (top, (a, 6, ob) :: H)) :=
  Pays.of pnK (Nat.le_of_ble_eq_true rfl) (P := [vr a, vi i1]) 0 rfl (X_validBlock_p i1 hf)
def X_markDirty (ob : Rec) (i1 : Int32) : Option (Rec) :=
  chk (32 : Int32) i1 <|
  chk (32 : Int32) i1 <|
  chk (32 : Int32) i1 <|
  some (sA (sA (sA ob 3 i1 (1 : Int32)) 4 i1 (0 : Int32)) 5 i1 (0 : Int32))
set_option maxRecDepth 65536 in
set_option maxHeartbeats 4000000 in
theorem X_markDirty_p {C : Ctx} {top : Nat} {a : Nat} {H : List (Nat × Nat × Rec)} {res : Rec} (ob : Rec) (i1 : Int32) (hf : X_markDirty ob i1 = some res) : Runs C B19 0 0 0 [vr a, vi i1] [] (top, (a, 6, ob) :: H) (Ans none (top, (a, 6, res) :: H)) := by
  delta X_markDirty at hf
  refine Runs.aloadN d19_0 rfl <| Runs.getA d19_1 fA_3 w17 (by decide) <| Runs.iloadN d19_4 rfl <| Runs.iconst d19_5 ci_1 <| ?_
  refine chk_el hf fun hi1 hf => ?_
  refine Runs.bastoreA (y := (1 : Int32)) d19_6 fA_3 (by decide) hi1 rfl <| Runs.aloadN d19_7 rfl <| Runs.getA d19_8 fA_4 w19 (by decide) <| Runs.iloadN d19_11 rfl <| Runs.iconst d19_12 ci_0 <| ?_
  refine chk_el hf fun hi2 hf => ?_
  refine Runs.bastoreA (y := (0 : Int32)) d19_13 fA_4 (by decide) hi2 rfl <| Runs.aloadN d19_14 rfl <| Runs.getA d19_15 fA_5 w21 (by decide) <| Runs.iloadN d19_18 rfl <| Runs.iconst d19_19 ci_0 <| ?_
  refine chk_el hf fun hi3 hf => ?_
  obtain rfl := Option.some.inj hf
  exact Runs.iastoreA d19_20 fA_5 (by decide) hi3 <| Runs.retV d19_21 rfl ⟨by decide, by decide⟩ ⟨rfl, rfl⟩
theorem X_markDirty_pay {C : Ctx} {top : Nat} {a : Nat} {H : List (Nat × Nat × Rec)} {res : Rec} {ob : Rec} {i1 : Int32} (hf : X_markDirty ob i1 = some res) : Pays C B19 [.ref a, .int i1] (top, (a, 6, ob) :: H) (Ans none (top, (a, 6, res) :: H)) :=
  Pays.of pnK (Nat.le_of_ble_eq_true rfl) (P := [vr a, vi i1]) 0 rfl (X_markDirty_p ob i1 hf)
def X_write (ob : Rec) (i1 : Int32) (i2 : Int32) : Option (Int32 × Rec) :=
  if (gI ob 4) = (0 : Int32) then
    (X_validBlock ob i1).bind fun r2 =>
    if r2 = (0 : Int32) then
      some ((-2 : Int32), ob)
    else
      if i2 < (0 : Int32) then
        some ((-2 : Int32), ob)
      else
        if (65535 : Int32) < i2 then
          some ((-2 : Int32), ob)
        else
          if (gI ob 5) = (0 : Int32) then
            dvz (gI ob 1) <|
            (X_markDirty ob (i1 / (gI ob 1))).bind fun q9 =>
            some ((0 : Int32), (sI (sI (sI (sI q9 5 (1 : Int32)) 6 i1) 7 i2) 8 (0 : Int32)))
          else
            some ((-3 : Int32), ob)
  else
    some ((-1 : Int32), ob)
set_option maxRecDepth 65536 in
set_option maxHeartbeats 4000000 in
theorem X_write_p {C : Ctx} {top : Nat} {a : Nat} {H : List (Nat × Nat × Rec)} {res : Int32 × Rec} (ob : Rec) (i1 : Int32) (i2 : Int32) (hf : X_write ob i1 i2 = some res) : Runs C B16 0 0 0 [vr a, vi i1, vi i2] [] (top, (a, 6, ob) :: H) (Ans (some (.int res.1)) (top, (a, 6, res.2) :: H)) := by
  delta X_write at hf
  refine Runs.aloadN d16_0 rfl <| Runs.getI d16_1 w34 fS_4 <| ?_
  refine ite_el hf (fun hc1 hf => ?_) (fun hc1 hf => ?_)
  · refine Runs.ifY (pc' := 9) d16_4 (teq hc1).1 (by decide) <| ?_
    refine Runs.aloadN d16_9 rfl <| Runs.iloadN d16_10 rfl <| ?_
    refine bind_el hf fun r2 hg3 hf => ?_
    refine Runs.callP (N := B14) (W := 0) (as := [.int i1]) (S' := []) d16_11 w96 w97 w98 rfl cw14 ar14 rk16_14_0 (by decide) rfl rfl (X_validBlock_pay hg3) <| ans1 <| ?_
    refine ite_el hf (fun hc4 hf => ?_) (fun hc4 hf => ?_)
    · refine Runs.ifY (pc' := 27) d16_14 (teq hc4).1 (by decide) <| ?_
      obtain rfl := Option.some.inj hf
      exact Runs.bipush d16_27 cb_m2 <| Runs.retI d16_29 rfl ⟨by decide, by decide⟩ ⟨rfl, rfl⟩
    · refine Runs.ifN d16_14 (feq hc4).1 <| ?_
      refine Runs.iloadN d16_17 rfl <| ?_
      refine ite_el hf (fun hc5 hf => ?_) (fun hc5 hf => ?_)
      · refine Runs.ifY (pc' := 27) d16_18 (tlt hc5).1 (by decide) <| ?_
        obtain rfl := Option.some.inj hf
        exact Runs.bipush d16_27 cb_m2 <| Runs.retI d16_29 rfl ⟨by decide, by decide⟩ ⟨rfl, rfl⟩
      · refine Runs.ifN d16_18 (flt hc5).1 <| ?_
        refine Runs.iloadN d16_21 rfl <| Runs.ldc d16_22 w119 <| ?_
        refine ite_el hf (fun hc6 hf => ?_) (fun hc6 hf => ?_)
        · refine Runs.icN d16_24 (tlt hc6).2.2.2 <| ?_
          obtain rfl := Option.some.inj hf
          exact Runs.bipush d16_27 cb_m2 <| Runs.retI d16_29 rfl ⟨by decide, by decide⟩ ⟨rfl, rfl⟩
        · refine Runs.icY (pc' := 30) d16_24 (flt hc6).2.2.2 (by decide) <| ?_
          refine Runs.aloadN d16_30 rfl <| Runs.getI d16_31 w36 fS_5 <| ?_
          refine ite_el hf (fun hc7 hf => ?_) (fun hc7 hf => ?_)
          · refine Runs.ifY (pc' := 40) d16_34 (teq hc7).1 (by decide) <| ?_
            refine Runs.aloadN d16_40 rfl <| Runs.iloadN d16_41 rfl <| Runs.aloadN d16_42 rfl <| Runs.getI d16_43 w28 fS_1 <| ?_
            refine dvz_el hf fun hz8 hf => ?_
            refine Runs.idiv d16_46 hz8 <| ?_
            refine bind_el hf fun q9 hg10 hf => ?_
            refine Runs.callP (N := B19) (W := 0) (as := [.int (i1 / (gI ob 1))]) (S' := []) d16_47 w120 w121 w122 rfl cw19 ar19 rk16_19_0 (by decide) rfl rfl (X_markDirty_pay hg10) <| ans0 <| Runs.aloadN d16_50 rfl <| Runs.iconst d16_51 ci_1 <| Runs.putZ (y := (1 : Int32)) d16_52 w36 fS_5 (Or.inl w37) rfl <| Runs.aloadN d16_55 rfl <| Runs.iloadN d16_56 rfl <| Runs.putI d16_57 w38 fS_6 (Or.inl w39) <| Runs.aloadN d16_60 rfl <| Runs.iloadN d16_61 rfl <| Runs.putI d16_62 w40 fS_7 (Or.inl w41) <| Runs.aloadN d16_65 rfl <| Runs.iconst d16_66 ci_0 <| ?_
            obtain rfl := Option.some.inj hf
            exact Runs.putI d16_67 w42 fS_8 (Or.inl w43) <| Runs.iconst d16_70 ci_0 <| Runs.retI d16_71 rfl ⟨by decide, by decide⟩ ⟨rfl, rfl⟩
          · refine Runs.ifN d16_34 (feq hc7).1 <| ?_
            obtain rfl := Option.some.inj hf
            exact Runs.bipush d16_37 cb_m3 <| Runs.retI d16_39 rfl ⟨by decide, by decide⟩ ⟨rfl, rfl⟩
  · refine Runs.ifN d16_4 (feq hc1).1 <| ?_
    obtain rfl := Option.some.inj hf
    exact Runs.iconst d16_7 ci_m1 <| Runs.retI d16_8 rfl ⟨by decide, by decide⟩ ⟨rfl, rfl⟩
theorem X_write_pay {C : Ctx} {top : Nat} {a : Nat} {H : List (Nat × Nat × Rec)} {res : Int32 × Rec} {ob : Rec} {i1 : Int32} {i2 : Int32} (hf : X_write ob i1 i2 = some res) : Pays C B16 [.ref a, .int i1, .int i2] (top, (a, 6, ob) :: H) (Ans (some (.int res.1)) (top, (a, 6, res.2) :: H)) :=
  Pays.of pnK (Nat.le_of_ble_eq_true rfl) (P := [vr a, vi i1, vi i2]) 0 rfl (X_write_p ob i1 i2 hf)
def X_clearPending (ob : Rec) : Option (Rec) :=
  some (sI (sI (sI (sI ob 5 (0 : Int32)) 6 (-1 : Int32)) 7 (0 : Int32)) 8 (-1 : Int32))
set_option maxRecDepth 65536 in
set_option maxHeartbeats 4000000 in
theorem X_clearPending_p {C : Ctx} {top : Nat} {a : Nat} {H : List (Nat × Nat × Rec)} {res : Rec} (ob : Rec) (hf : X_clearPending ob = some res) : Runs C B4 0 0 0 [vr a] [] (top, (a, 6, ob) :: H) (Ans none (top, (a, 6, res) :: H)) := by
  delta X_clearPending at hf
  refine Runs.aloadN d4_0 rfl <| Runs.iconst d4_1 ci_0 <| Runs.putZ (y := (0 : Int32)) d4_2 w36 fS_5 (Or.inl w37) rfl <| Runs.aloadN d4_5 rfl <| Runs.iconst d4_6 ci_m1 <| Runs.putI d4_7 w38 fS_6 (Or.inl w39) <| Runs.aloadN d4_10 rfl <| Runs.iconst d4_11 ci_0 <| Runs.putI d4_12 w40 fS_7 (Or.inl w41) <| Runs.aloadN d4_15 rfl <| Runs.iconst d4_16 ci_m1 <| Runs.putI d4_17 w42 fS_8 (Or.inl w43) <| ?_
  obtain rfl := Option.some.inj hf
  exact Runs.retV d4_20 rfl ⟨by decide, by decide⟩ ⟨rfl, rfl⟩
theorem X_clearPending_pay {C : Ctx} {top : Nat} {a : Nat} {H : List (Nat × Nat × Rec)} {res : Rec} {ob : Rec} (hf : X_clearPending ob = some res) : Pays C B4 [.ref a] (top, (a, 6, ob) :: H) (Ans none (top, (a, 6, res) :: H)) :=
  Pays.of pnK (Nat.le_of_ble_eq_true rfl) (P := [vr a]) 0 rfl (X_clearPending_p ob hf)
def X_crash (ob : Rec) : Option (Int32 × Rec) :=
  if (gI ob 4) = (0 : Int32) then
    (X_clearPending ob).bind fun q2 =>
    some ((0 : Int32), (sI q2 4 (1 : Int32)))
  else
    some ((-1 : Int32), ob)
set_option maxRecDepth 65536 in
set_option maxHeartbeats 4000000 in
theorem X_crash_p {C : Ctx} {top : Nat} {a : Nat} {H : List (Nat × Nat × Rec)} {res : Int32 × Rec} (ob : Rec) (hf : X_crash ob = some res) : Runs C B3 0 0 0 [vr a] [] (top, (a, 6, ob) :: H) (Ans (some (.int res.1)) (top, (a, 6, res.2) :: H)) := by
  delta X_crash at hf
  refine Runs.aloadN d3_0 rfl <| Runs.getI d3_1 w34 fS_4 <| ?_
  refine ite_el hf (fun hc1 hf => ?_) (fun hc1 hf => ?_)
  · refine Runs.ifY (pc' := 9) d3_4 (teq hc1).1 (by decide) <| ?_
    refine Runs.aloadN d3_9 rfl <| ?_
    refine bind_el hf fun q2 hg3 hf => ?_
    obtain rfl := Option.some.inj hf
    exact Runs.callP (N := B4) (W := 0) (as := []) (S' := []) d3_10 w49 w50 w51 rfl cw4 ar4 rk3_4_0 (by decide) rfl rfl (X_clearPending_pay hg3) <| ans0 <| Runs.aloadN d3_13 rfl <| Runs.iconst d3_14 ci_1 <| Runs.putZ (y := (1 : Int32)) d3_15 w34 fS_4 (Or.inl w35) rfl <| Runs.iconst d3_18 ci_0 <| Runs.retI d3_19 rfl ⟨by decide, by decide⟩ ⟨rfl, rfl⟩
  · refine Runs.ifN d3_4 (feq hc1).1 <| ?_
    obtain rfl := Option.some.inj hf
    exact Runs.iconst d3_7 ci_m1 <| Runs.retI d3_8 rfl ⟨by decide, by decide⟩ ⟨rfl, rfl⟩
theorem X_crash_pay {C : Ctx} {top : Nat} {a : Nat} {H : List (Nat × Nat × Rec)} {res : Int32 × Rec} {ob : Rec} (hf : X_crash ob = some res) : Pays C B3 [.ref a] (top, (a, 6, ob) :: H) (Ans (some (.int res.1)) (top, (a, 6, res.2) :: H)) :=
  Pays.of pnK (Nat.le_of_ble_eq_true rfl) (P := [vr a]) 0 rfl (X_crash_p ob hf)
def X_restart (ob : Rec) : Option (Int32 × Rec) :=
  if (gI ob 4) = (0 : Int32) then
    some ((-4 : Int32), ob)
  else
    chk (2 : Int32) (0 : Int32) <|
    if (gA ob 2 (0 : Int32)) = (0 : Int32) then
      chk (2 : Int32) (1 : Int32) <|
      if (gA ob 2 (1 : Int32)) = (0 : Int32) then
        chk (2 : Int32) (1 : Int32) <|
        some ((0 : Int32), (sA (sI ob 4 (0 : Int32)) 2 (1 : Int32) (1 : Int32)))
      else
        some ((0 : Int32), (sI ob 4 (0 : Int32)))
    else
      some ((0 : Int32), (sI ob 4 (0 : Int32)))
set_option maxRecDepth 65536 in
set_option maxHeartbeats 4000000 in
theorem X_restart_p {C : Ctx} {top : Nat} {a : Nat} {H : List (Nat × Nat × Rec)} {res : Int32 × Rec} (ob : Rec) (hf : X_restart ob = some res) : Runs C B18 0 0 0 [vr a] [] (top, (a, 6, ob) :: H) (Ans (some (.int res.1)) (top, (a, 6, res.2) :: H)) := by
  delta X_restart at hf
  refine Runs.aloadN d18_0 rfl <| Runs.getI d18_1 w34 fS_4 <| ?_
  refine ite_el hf (fun hc1 hf => ?_) (fun hc1 hf => ?_)
  · refine Runs.ifN d18_4 (teq hc1).2 <| ?_
    obtain rfl := Option.some.inj hf
    exact Runs.bipush d18_7 cb_m4 <| Runs.retI d18_9 rfl ⟨by decide, by decide⟩ ⟨rfl, rfl⟩
  · refine Runs.ifY (pc' := 10) d18_4 (feq hc1).2 (by decide) <| ?_
    refine Runs.aloadN d18_10 rfl <| Runs.iconst d18_11 ci_0 <| Runs.putZ (y := (0 : Int32)) d18_12 w34 fS_4 (Or.inl w35) rfl <| Runs.aloadN d18_15 rfl <| Runs.getA d18_16 fA_2 w14 (by decide) <| Runs.iconst d18_19 ci_0 <| ?_
    refine chk_el hf fun hi2 hf => ?_
    refine Runs.ialoadA d18_20 fA_2 (by decide) hi2 <| ?_
    refine ite_el hf (fun hc3 hf => ?_) (fun hc3 hf => ?_)
    · refine Runs.ifN d18_21 (teq hc3).2 <| ?_
      refine Runs.aloadN d18_24 rfl <| Runs.getA d18_25 fA_2 w14 (by decide) <| Runs.iconst d18_28 ci_1 <| ?_
      refine chk_el hf fun hi4 hf => ?_
      refine Runs.ialoadA d18_29 fA_2 (by decide) hi4 <| ?_
      refine ite_el hf (fun hc5 hf => ?_) (fun hc5 hf => ?_)
      · refine Runs.ifN d18_30 (teq hc5).2 <| ?_
        refine Runs.aloadN d18_33 rfl <| Runs.getA d18_34 fA_2 w14 (by decide) <| Runs.iconst d18_37 ci_1 <| Runs.iconst d18_38 ci_1 <| ?_
        refine chk_el hf fun hi6 hf => ?_
        obtain rfl := Option.some.inj hf
        exact Runs.iastoreA d18_39 fA_2 (by decide) hi6 <| Runs.iconst d18_40 ci_0 <| Runs.retI d18_41 rfl ⟨by decide, by decide⟩ ⟨rfl, rfl⟩
      · refine Runs.ifY (pc' := 40) d18_30 (feq hc5).2 (by decide) <| ?_
        obtain rfl := Option.some.inj hf
        exact Runs.iconst d18_40 ci_0 <| Runs.retI d18_41 rfl ⟨by decide, by decide⟩ ⟨rfl, rfl⟩
    · refine Runs.ifY (pc' := 40) d18_21 (feq hc3).2 (by decide) <| ?_
      obtain rfl := Option.some.inj hf
      exact Runs.iconst d18_40 ci_0 <| Runs.retI d18_41 rfl ⟨by decide, by decide⟩ ⟨rfl, rfl⟩
theorem X_restart_pay {C : Ctx} {top : Nat} {a : Nat} {H : List (Nat × Nat × Rec)} {res : Int32 × Rec} {ob : Rec} (hf : X_restart ob = some res) : Pays C B18 [.ref a] (top, (a, 6, ob) :: H) (Ans (some (.int res.1)) (top, (a, 6, res.2) :: H)) :=
  Pays.of pnK (Nat.le_of_ble_eq_true rfl) (P := [vr a]) 0 rfl (X_restart_p ob hf)
def X_validLeg (ob : Rec) (i1 : Int32) : Option (Int32) :=
  if i1 = (0 : Int32) then
    some (1 : Int32)
  else
    if i1 = (1 : Int32) then
      some (1 : Int32)
    else
      some (0 : Int32)
set_option maxRecDepth 65536 in
set_option maxHeartbeats 4000000 in
theorem X_validLeg_p {C : Ctx} {top : Nat} {a : Nat} {H : List (Nat × Nat × Rec)} {ob : Rec} {res : Int32} (i1 : Int32) (hf : X_validLeg ob i1 = some res) : Runs C B7 0 0 0 [vr a, vi i1] [] (top, (a, 6, ob) :: H) (Ans (some (.int res)) (top, (a, 6, ob) :: H)) := by
  delta X_validLeg at hf
  refine Runs.iloadN d7_0 rfl <| ?_
  refine ite_el hf (fun hc1 hf => ?_) (fun hc1 hf => ?_)
  · refine Runs.ifY (pc' := 9) d7_1 (teq hc1).1 (by decide) <| ?_
    obtain rfl := Option.some.inj hf
    exact Runs.iconst d7_9 ci_1 <| Runs.goto (pc' := 14) d7_10 (by decide) <| Runs.retZ (y := (1 : Int32)) d7_14 rfl ⟨by decide, by decide⟩ rfl ⟨rfl, rfl⟩
  · refine Runs.ifN d7_1 (feq hc1).1 <| ?_
    refine Runs.iloadN d7_4 rfl <| Runs.iconst d7_5 ci_1 <| ?_
    refine ite_el hf (fun hc2 hf => ?_) (fun hc2 hf => ?_)
    · refine Runs.icN d7_6 (teq hc2).2 <| ?_
      obtain rfl := Option.some.inj hf
      exact Runs.iconst d7_9 ci_1 <| Runs.goto (pc' := 14) d7_10 (by decide) <| Runs.retZ (y := (1 : Int32)) d7_14 rfl ⟨by decide, by decide⟩ rfl ⟨rfl, rfl⟩
    · refine Runs.icY (pc' := 13) d7_6 (feq hc2).2 (by decide) <| ?_
      obtain rfl := Option.some.inj hf
      exact Runs.iconst d7_13 ci_0 <| Runs.retZ (y := (0 : Int32)) d7_14 rfl ⟨by decide, by decide⟩ rfl ⟨rfl, rfl⟩
theorem X_validLeg_pay {C : Ctx} {top : Nat} {a : Nat} {H : List (Nat × Nat × Rec)} {ob : Rec} {res : Int32} {i1 : Int32} (hf : X_validLeg ob i1 = some res) : Pays C B7 [.ref a, .int i1] (top, (a, 6, ob) :: H) (Ans (some (.int res)) (top, (a, 6, ob) :: H)) :=
  Pays.of pnK (Nat.le_of_ble_eq_true rfl) (P := [vr a, vi i1]) 0 rfl (X_validLeg_p i1 hf)
def X_failLeg (ob : Rec) (i1 : Int32) : Option (Int32 × Rec) :=
  if (gI ob 4) = (0 : Int32) then
    (X_validLeg ob i1).bind fun r2 =>
    if r2 = (0 : Int32) then
      some ((-2 : Int32), ob)
    else
      chk (2 : Int32) i1 <|
      if (gA ob 2 i1) = (2 : Int32) then
        some ((-4 : Int32), ob)
      else
        chk (2 : Int32) ((1 : Int32) - i1) <|
        if (gA ob 2 ((1 : Int32) - i1)) = (0 : Int32) then
          chk (2 : Int32) i1 <|
          some ((0 : Int32), (sA ob 2 i1 (2 : Int32)))
        else
          some ((-4 : Int32), ob)
  else
    some ((-1 : Int32), ob)
set_option maxRecDepth 65536 in
set_option maxHeartbeats 4000000 in
theorem X_failLeg_p {C : Ctx} {top : Nat} {a : Nat} {H : List (Nat × Nat × Rec)} {res : Int32 × Rec} (ob : Rec) (i1 : Int32) (hf : X_failLeg ob i1 = some res) : Runs C B17 0 0 0 [vr a, vi i1] [] (top, (a, 6, ob) :: H) (Ans (some (.int res.1)) (top, (a, 6, res.2) :: H)) := by
  delta X_failLeg at hf
  refine Runs.aloadN d17_0 rfl <| Runs.getI d17_1 w34 fS_4 <| ?_
  refine ite_el hf (fun hc1 hf => ?_) (fun hc1 hf => ?_)
  · refine Runs.ifY (pc' := 9) d17_4 (teq hc1).1 (by decide) <| ?_
    refine Runs.aloadN d17_9 rfl <| Runs.iloadN d17_10 rfl <| ?_
    refine bind_el hf fun r2 hg3 hf => ?_
    refine Runs.callP (N := B7) (W := 0) (as := [.int i1]) (S' := []) d17_11 w62 w63 w64 rfl cw7 ar7 rk17_7_0 (by decide) rfl rfl (X_validLeg_pay hg3) <| ans1 <| ?_
    refine ite_el hf (fun hc4 hf => ?_) (fun hc4 hf => ?_)
    · refine Runs.ifN d17_14 (teq hc4).2 <| ?_
      obtain rfl := Option.some.inj hf
      exact Runs.bipush d17_17 cb_m2 <| Runs.retI d17_19 rfl ⟨by decide, by decide⟩ ⟨rfl, rfl⟩
    · refine Runs.ifY (pc' := 20) d17_14 (feq hc4).2 (by decide) <| ?_
      refine Runs.aloadN d17_20 rfl <| Runs.getA d17_21 fA_2 w14 (by decide) <| Runs.iloadN d17_24 rfl <| ?_
      refine chk_el hf fun hi5 hf => ?_
      refine Runs.ialoadA d17_25 fA_2 (by decide) hi5 <| Runs.iconst d17_26 ci_2 <| ?_
      refine ite_el hf (fun hc6 hf => ?_) (fun hc6 hf => ?_)
      · refine Runs.icN d17_27 (teq hc6).2 <| ?_
        obtain rfl := Option.some.inj hf
        exact Runs.bipush d17_30 cb_m4 <| Runs.retI d17_32 rfl ⟨by decide, by decide⟩ ⟨rfl, rfl⟩
      · refine Runs.icY (pc' := 33) d17_27 (feq hc6).2 (by decide) <| ?_
        refine Runs.aloadN d17_33 rfl <| Runs.getA d17_34 fA_2 w14 (by decide) <| Runs.iconst d17_37 ci_1 <| Runs.iloadN d17_38 rfl <| Runs.isub d17_39 <| ?_
        refine chk_el hf fun hi7 hf => ?_
        refine Runs.ialoadA d17_40 fA_2 (by decide) hi7 <| ?_
        refine ite_el hf (fun hc8 hf => ?_) (fun hc8 hf => ?_)
        · refine Runs.ifY (pc' := 47) d17_41 (teq hc8).1 (by decide) <| ?_
          refine Runs.aloadN d17_47 rfl <| Runs.getA d17_48 fA_2 w14 (by decide) <| Runs.iloadN d17_51 rfl <| Runs.iconst d17_52 ci_2 <| ?_
          refine chk_el hf fun hi9 hf => ?_
          obtain rfl := Option.some.inj hf
          exact Runs.iastoreA d17_53 fA_2 (by decide) hi9 <| Runs.iconst d17_54 ci_0 <| Runs.retI d17_55 rfl ⟨by decide, by decide⟩ ⟨rfl, rfl⟩
        · refine Runs.ifN d17_41 (feq hc8).1 <| ?_
          obtain rfl := Option.some.inj hf
          exact Runs.bipush d17_44 cb_m4 <| Runs.retI d17_46 rfl ⟨by decide, by decide⟩ ⟨rfl, rfl⟩
  · refine Runs.ifN d17_4 (feq hc1).1 <| ?_
    obtain rfl := Option.some.inj hf
    exact Runs.iconst d17_7 ci_m1 <| Runs.retI d17_8 rfl ⟨by decide, by decide⟩ ⟨rfl, rfl⟩
theorem X_failLeg_pay {C : Ctx} {top : Nat} {a : Nat} {H : List (Nat × Nat × Rec)} {res : Int32 × Rec} {ob : Rec} {i1 : Int32} (hf : X_failLeg ob i1 = some res) : Pays C B17 [.ref a, .int i1] (top, (a, 6, ob) :: H) (Ans (some (.int res.1)) (top, (a, 6, res.2) :: H)) :=
  Pays.of pnK (Nat.le_of_ble_eq_true rfl) (P := [vr a, vi i1]) 0 rfl (X_failLeg_p ob i1 hf)
def X_checkDetached (ob : Rec) (i1 : Int32) : Option (Int32) :=
  if (gI ob 4) = (0 : Int32) then
    (X_validLeg ob i1).bind fun r2 =>
    if r2 = (0 : Int32) then
      some (-2 : Int32)
    else
      if (gI ob 5) = (0 : Int32) then
        chk (2 : Int32) i1 <|
        if (gA ob 2 i1) = (2 : Int32) then
          some (0 : Int32)
        else
          some (-4 : Int32)
      else
        some (-3 : Int32)
  else
    some (-1 : Int32)
set_option maxRecDepth 65536 in
set_option maxHeartbeats 4000000 in
theorem X_checkDetached_p {C : Ctx} {top : Nat} {a : Nat} {H : List (Nat × Nat × Rec)} {ob : Rec} {res : Int32} (i1 : Int32) (hf : X_checkDetached ob i1 = some res) : Runs C B22 0 0 0 [vr a, vi i1] [] (top, (a, 6, ob) :: H) (Ans (some (.int res)) (top, (a, 6, ob) :: H)) := by
  delta X_checkDetached at hf
  refine Runs.aloadN d22_0 rfl <| Runs.getI d22_1 w34 fS_4 <| ?_
  refine ite_el hf (fun hc1 hf => ?_) (fun hc1 hf => ?_)
  · refine Runs.ifY (pc' := 9) d22_4 (teq hc1).1 (by decide) <| ?_
    refine Runs.aloadN d22_9 rfl <| Runs.iloadN d22_10 rfl <| ?_
    refine bind_el hf fun r2 hg3 hf => ?_
    refine Runs.callP (N := B7) (W := 0) (as := [.int i1]) (S' := []) d22_11 w62 w63 w64 rfl cw7 ar7 rk22_7_0 (by decide) rfl rfl (X_validLeg_pay hg3) <| ans1 <| ?_
    refine ite_el hf (fun hc4 hf => ?_) (fun hc4 hf => ?_)
    · refine Runs.ifN d22_14 (teq hc4).2 <| ?_
      obtain rfl := Option.some.inj hf
      exact Runs.bipush d22_17 cb_m2 <| Runs.retI d22_19 rfl ⟨by decide, by decide⟩ ⟨rfl, rfl⟩
    · refine Runs.ifY (pc' := 20) d22_14 (feq hc4).2 (by decide) <| ?_
      refine Runs.aloadN d22_20 rfl <| Runs.getI d22_21 w36 fS_5 <| ?_
      refine ite_el hf (fun hc5 hf => ?_) (fun hc5 hf => ?_)
      · refine Runs.ifY (pc' := 30) d22_24 (teq hc5).1 (by decide) <| ?_
        refine Runs.aloadN d22_30 rfl <| Runs.getA d22_31 fA_2 w14 (by decide) <| Runs.iloadN d22_34 rfl <| ?_
        refine chk_el hf fun hi6 hf => ?_
        refine Runs.ialoadA d22_35 fA_2 (by decide) hi6 <| Runs.iconst d22_36 ci_2 <| ?_
        refine ite_el hf (fun hc7 hf => ?_) (fun hc7 hf => ?_)
        · refine Runs.icY (pc' := 43) d22_37 (teq hc7).1 (by decide) <| ?_
          obtain rfl := Option.some.inj hf
          exact Runs.iconst d22_43 ci_0 <| Runs.retI d22_44 rfl ⟨by decide, by decide⟩ ⟨rfl, rfl⟩
        · refine Runs.icN d22_37 (feq hc7).1 <| ?_
          obtain rfl := Option.some.inj hf
          exact Runs.bipush d22_40 cb_m4 <| Runs.retI d22_42 rfl ⟨by decide, by decide⟩ ⟨rfl, rfl⟩
      · refine Runs.ifN d22_24 (feq hc5).1 <| ?_
        obtain rfl := Option.some.inj hf
        exact Runs.bipush d22_27 cb_m3 <| Runs.retI d22_29 rfl ⟨by decide, by decide⟩ ⟨rfl, rfl⟩
  · refine Runs.ifN d22_4 (feq hc1).1 <| ?_
    obtain rfl := Option.some.inj hf
    exact Runs.iconst d22_7 ci_m1 <| Runs.retI d22_8 rfl ⟨by decide, by decide⟩ ⟨rfl, rfl⟩
theorem X_checkDetached_pay {C : Ctx} {top : Nat} {a : Nat} {H : List (Nat × Nat × Rec)} {ob : Rec} {res : Int32} {i1 : Int32} (hf : X_checkDetached ob i1 = some res) : Pays C B22 [.ref a, .int i1] (top, (a, 6, ob) :: H) (Ans (some (.int res)) (top, (a, 6, ob) :: H)) :=
  Pays.of pnK (Nat.le_of_ble_eq_true rfl) (P := [vr a, vi i1]) 0 rfl (X_checkDetached_p i1 hf)
def X_reattachLeg (ob : Rec) (i1 : Int32) : Option (Int32 × Rec) :=
  (X_checkDetached ob i1).bind fun r1 =>
  if r1 = (0 : Int32) then
    chk (2 : Int32) i1 <|
    some ((0 : Int32), (sA ob 2 i1 (1 : Int32)))
  else
    some (r1, ob)
set_option maxRecDepth 65536 in
set_option maxHeartbeats 4000000 in
theorem X_reattachLeg_p {C : Ctx} {top : Nat} {a : Nat} {H : List (Nat × Nat × Rec)} {res : Int32 × Rec} (ob : Rec) (i1 : Int32) (hf : X_reattachLeg ob i1 = some res) : Runs C B21 0 0 0 [vr a, vi i1, vn] [] (top, (a, 6, ob) :: H) (Ans (some (.int res.1)) (top, (a, 6, res.2) :: H)) := by
  delta X_reattachLeg at hf
  refine Runs.aloadN d21_0 rfl <| Runs.iloadN d21_1 rfl <| ?_
  refine bind_el hf fun r1 hg2 hf => ?_
  refine Runs.callP (N := B22) (W := 0) (as := [.int i1]) (S' := []) d21_2 w134 w135 w136 rfl cw22 ar22 rk21_22_0 (by decide) rfl rfl (X_checkDetached_pay hg2) <| ans1 <| Runs.istoreN (P' := [vr a, vi i1, vi r1]) d21_5 (by decide) rfl <| Runs.iloadN d21_6 rfl <| ?_
  refine ite_el hf (fun hc3 hf => ?_) (fun hc3 hf => ?_)
  · refine Runs.ifY (pc' := 12) d21_7 (teq hc3).1 (by decide) <| ?_
    refine Runs.aloadN d21_12 rfl <| Runs.getA d21_13 fA_2 w14 (by decide) <| Runs.iloadN d21_16 rfl <| Runs.iconst d21_17 ci_1 <| ?_
    refine chk_el hf fun hi4 hf => ?_
    obtain rfl := Option.some.inj hf
    exact Runs.iastoreA d21_18 fA_2 (by decide) hi4 <| Runs.iconst d21_19 ci_0 <| Runs.retI d21_20 rfl ⟨by decide, by decide⟩ ⟨rfl, rfl⟩
  · refine Runs.ifN d21_7 (feq hc3).1 <| ?_
    obtain rfl := Option.some.inj hf
    exact Runs.iloadN d21_10 rfl <| Runs.retI d21_11 rfl ⟨by decide, by decide⟩ ⟨rfl, rfl⟩
theorem X_reattachLeg_pay {C : Ctx} {top : Nat} {a : Nat} {H : List (Nat × Nat × Rec)} {res : Int32 × Rec} {ob : Rec} {i1 : Int32} (hf : X_reattachLeg ob i1 = some res) : Pays C B21 [.ref a, .int i1] (top, (a, 6, ob) :: H) (Ans (some (.int res.1)) (top, (a, 6, res.2) :: H)) :=
  Pays.of pnK (Nat.le_of_ble_eq_true rfl) (P := [vr a, vi i1, vn]) 1 rfl (X_reattachLeg_p ob i1 hf)
def X_zeroLeg_w7 (NF : Nat) (k7 : Rec → Int32 → Int32 → Option (Rec)) (ob : Rec) (i2 : Int32) (i3 : Int32) : Option (Rec) :=
  if i3 < (gI ob 0) then
    chk (64 : Int32) (i2 + i3) <|
    k7 (sA ob 0 (i2 + i3) (0 : Int32)) i2 (i3 + (1 : Int32))
  else
    some ob
def X_zeroLeg_l7 (NF : Nat) : Nat → Rec → Int32 → Int32 → Option (Rec)
  | 0, _, _, _ => none
  | n + 1, ob, i2, i3 => X_zeroLeg_w7 NF (X_zeroLeg_l7 NF n) ob i2 i3
set_option maxRecDepth 65536 in
set_option maxHeartbeats 4000000 in
theorem X_zeroLeg_w7_p {C : Ctx} {top : Nat} {a : Nat} {H : List (Nat × Nat × Rec)} {res : Rec} {NF : Nat} (k7 : Rec → Int32 → Int32 → Option (Rec)) (hk7 : ∀ (ob : Rec) (i2 : Int32) (i3 : Int32), k7 ob i2 i3 = some res → Runs C B29 0 0 7 [vr a, vn, vi i2, vi i3] [] (top, (a, 6, ob) :: H) (Ans none (top, (a, 6, res) :: H))) (ob : Rec) (i2 : Int32) (i3 : Int32) (hf : X_zeroLeg_w7 NF k7 ob i2 i3 = some res) : Runs C B29 0 0 7 [vr a, vn, vi i2, vi i3] [] (top, (a, 6, ob) :: H) (Ans none (top, (a, 6, res) :: H)) := by
  delta X_zeroLeg_w7 at hf
  refine Runs.iloadN d29_7 rfl <| Runs.aloadN d29_8 rfl <| Runs.getI d29_9 w26 fS_0 <| ?_
  refine ite_el hf (fun hc1 hf => ?_) (fun hc1 hf => ?_)
  · refine Runs.icN d29_12 (tlt hc1).2.1 <| ?_
    refine Runs.aloadN d29_15 rfl <| Runs.getA d29_16 fA_0 w10 (by decide) <| Runs.iloadN d29_19 rfl <| Runs.iloadN d29_20 rfl <| Runs.iadd d29_21 <| Runs.iconst d29_22 ci_0 <| ?_
    refine chk_el hf fun hi2 hf => ?_
    exact Runs.iastoreA d29_23 fA_0 (by decide) hi2 <| Runs.iinc (P' := [vr a, vn, vi i2, vi (i3 + (1 : Int32))]) d29_24 ci_1 rfl (by decide) rfl <| Runs.goto (pc' := 7) d29_27 (by decide) <| hk7 (sA ob 0 (i2 + i3) (0 : Int32)) i2 (i3 + (1 : Int32)) hf
  · refine Runs.icY (pc' := 30) d29_12 (flt hc1).2.1 (by decide) <| ?_
    obtain rfl := Option.some.inj hf
    exact Runs.retV d29_30 rfl ⟨by decide, by decide⟩ ⟨rfl, rfl⟩
theorem X_zeroLeg_l7_p {C : Ctx} {top : Nat} {a : Nat} {H : List (Nat × Nat × Rec)} {res : Rec} {NF : Nat} (n : Nat) (ob : Rec) (i2 : Int32) (i3 : Int32) (hf : X_zeroLeg_l7 NF n ob i2 i3 = some res) : Runs C B29 0 0 7 [vr a, vn, vi i2, vi i3] [] (top, (a, 6, ob) :: H) (Ans none (top, (a, 6, res) :: H)) := by
  induction n generalizing ob i2 i3 with
  | zero => cases (show (none : Option (Rec)) = some res from hf)
  | succ n ih => exact X_zeroLeg_w7_p (X_zeroLeg_l7 NF n) (fun ob i2 i3 h => ih _ _ _ h) ob i2 i3 hf
def X_zeroLeg (NF : Nat) (ob : Rec) (i1 : Int32) : Option (Rec) :=
  X_zeroLeg_l7 NF NF ob (i1 * (32 : Int32)) (0 : Int32)
set_option maxRecDepth 65536 in
set_option maxHeartbeats 4000000 in
theorem X_zeroLeg_p {C : Ctx} {top : Nat} {a : Nat} {H : List (Nat × Nat × Rec)} {res : Rec} {NF : Nat} (ob : Rec) (i1 : Int32) (hf : X_zeroLeg NF ob i1 = some res) : Runs C B29 0 0 0 [vr a, vi i1, vn, vn] [] (top, (a, 6, ob) :: H) (Ans none (top, (a, 6, res) :: H)) := by
  delta X_zeroLeg at hf
  exact Runs.iloadN d29_0 rfl <| Runs.bipush d29_1 cb_32 <| Runs.imul d29_3 <| Runs.istoreN (P' := [vr a, vi i1, vi (i1 * (32 : Int32)), vn]) d29_4 (by decide) rfl <| Runs.iconst d29_5 ci_0 <| Runs.istoreN (P' := [vr a, vi i1, vi (i1 * (32 : Int32)), vi (0 : Int32)]) d29_6 (by decide) rfl <| Runs.forget [true, false, true, true] rfl <| X_zeroLeg_l7_p NF ob (i1 * (32 : Int32)) (0 : Int32) hf
theorem X_zeroLeg_pay {C : Ctx} {top : Nat} {a : Nat} {H : List (Nat × Nat × Rec)} {res : Rec} {NF : Nat} {ob : Rec} {i1 : Int32} (hf : X_zeroLeg NF ob i1 = some res) : Pays C B29 [.ref a, .int i1] (top, (a, 6, ob) :: H) (Ans none (top, (a, 6, res) :: H)) :=
  Pays.of pnK (Nat.le_of_ble_eq_true rfl) (P := [vr a, vi i1, vn, vn]) 2 rfl (X_zeroLeg_p ob i1 hf)
def X_markAllDirty_w2 (NF : Nat) (k2 : Rec → Int32 → Option (Rec)) (ob : Rec) (i1 : Int32) : Option (Rec) :=
  if i1 < (gI ob 3) then
    (X_markDirty ob i1).bind fun q2 =>
    k2 q2 (i1 + (1 : Int32))
  else
    some ob
def X_markAllDirty_l2 (NF : Nat) : Nat → Rec → Int32 → Option (Rec)
  | 0, _, _ => none
  | n + 1, ob, i1 => X_markAllDirty_w2 NF (X_markAllDirty_l2 NF n) ob i1
set_option maxRecDepth 65536 in
set_option maxHeartbeats 4000000 in
theorem X_markAllDirty_w2_p {C : Ctx} {top : Nat} {a : Nat} {H : List (Nat × Nat × Rec)} {res : Rec} {NF : Nat} (k2 : Rec → Int32 → Option (Rec)) (hk2 : ∀ (ob : Rec) (i1 : Int32), k2 ob i1 = some res → Runs C B30 0 0 2 [vr a, vi i1] [] (top, (a, 6, ob) :: H) (Ans none (top, (a, 6, res) :: H))) (ob : Rec) (i1 : Int32) (hf : X_markAllDirty_w2 NF k2 ob i1 = some res) : Runs C B30 0 0 2 [vr a, vi i1] [] (top, (a, 6, ob) :: H) (Ans none (top, (a, 6, res) :: H)) := by
  delta X_markAllDirty_w2 at hf
  refine Runs.iloadN d30_2 rfl <| Runs.aloadN d30_3 rfl <| Runs.getI d30_4 w32 fS_3 <| ?_
  refine ite_el hf (fun hc1 hf => ?_) (fun hc1 hf => ?_)
  · refine Runs.icN d30_7 (tlt hc1).2.1 <| ?_
    refine Runs.aloadN d30_10 rfl <| Runs.iloadN d30_11 rfl <| ?_
    refine bind_el hf fun q2 hg3 hf => ?_
    exact Runs.callP (N := B19) (W := 0) (as := [.int i1]) (S' := []) d30_12 w120 w121 w122 rfl cw19 ar19 rk30_19_0 (by decide) rfl rfl (X_markDirty_pay hg3) <| ans0 <| Runs.iinc (P' := [vr a, vi (i1 + (1 : Int32))]) d30_15 ci_1 rfl (by decide) rfl <| Runs.goto (pc' := 2) d30_18 (by decide) <| hk2 q2 (i1 + (1 : Int32)) hf
  · refine Runs.icY (pc' := 21) d30_7 (flt hc1).2.1 (by decide) <| ?_
    obtain rfl := Option.some.inj hf
    exact Runs.retV d30_21 rfl ⟨by decide, by decide⟩ ⟨rfl, rfl⟩
theorem X_markAllDirty_l2_p {C : Ctx} {top : Nat} {a : Nat} {H : List (Nat × Nat × Rec)} {res : Rec} {NF : Nat} (n : Nat) (ob : Rec) (i1 : Int32) (hf : X_markAllDirty_l2 NF n ob i1 = some res) : Runs C B30 0 0 2 [vr a, vi i1] [] (top, (a, 6, ob) :: H) (Ans none (top, (a, 6, res) :: H)) := by
  induction n generalizing ob i1 with
  | zero => cases (show (none : Option (Rec)) = some res from hf)
  | succ n ih => exact X_markAllDirty_w2_p (X_markAllDirty_l2 NF n) (fun ob i1 h => ih _ _ h) ob i1 hf
def X_markAllDirty (NF : Nat) (ob : Rec) : Option (Rec) :=
  X_markAllDirty_l2 NF NF ob (0 : Int32)
set_option maxRecDepth 65536 in
set_option maxHeartbeats 4000000 in
theorem X_markAllDirty_p {C : Ctx} {top : Nat} {a : Nat} {H : List (Nat × Nat × Rec)} {res : Rec} {NF : Nat} (ob : Rec) (hf : X_markAllDirty NF ob = some res) : Runs C B30 0 0 0 [vr a, vn] [] (top, (a, 6, ob) :: H) (Ans none (top, (a, 6, res) :: H)) := by
  delta X_markAllDirty at hf
  exact Runs.iconst d30_0 ci_0 <| Runs.istoreN (P' := [vr a, vi (0 : Int32)]) d30_1 (by decide) rfl <| X_markAllDirty_l2_p NF ob (0 : Int32) hf
theorem X_markAllDirty_pay {C : Ctx} {top : Nat} {a : Nat} {H : List (Nat × Nat × Rec)} {res : Rec} {NF : Nat} {ob : Rec} (hf : X_markAllDirty NF ob = some res) : Pays C B30 [.ref a] (top, (a, 6, ob) :: H) (Ans none (top, (a, 6, res) :: H)) :=
  Pays.of pnK (Nat.le_of_ble_eq_true rfl) (P := [vr a, vn]) 1 rfl (X_markAllDirty_p ob hf)
def X_replaceLeg (NF : Nat) (ob : Rec) (i1 : Int32) : Option (Int32 × Rec) :=
  (X_checkDetached ob i1).bind fun r1 =>
  if r1 = (0 : Int32) then
    (X_zeroLeg NF ob i1).bind fun q4 =>
    (X_markAllDirty NF q4).bind fun q6 =>
    chk (2 : Int32) i1 <|
    some ((0 : Int32), (sA q6 2 i1 (1 : Int32)))
  else
    some (r1, ob)
set_option maxRecDepth 65536 in
set_option maxHeartbeats 4000000 in
theorem X_replaceLeg_p {C : Ctx} {top : Nat} {a : Nat} {H : List (Nat × Nat × Rec)} {res : Int32 × Rec} {NF : Nat} (ob : Rec) (i1 : Int32) (hf : X_replaceLeg NF ob i1 = some res) : Runs C B26 0 0 0 [vr a, vi i1, vn] [] (top, (a, 6, ob) :: H) (Ans (some (.int res.1)) (top, (a, 6, res.2) :: H)) := by
  delta X_replaceLeg at hf
  refine Runs.aloadN d26_0 rfl <| Runs.iloadN d26_1 rfl <| ?_
  refine bind_el hf fun r1 hg2 hf => ?_
  refine Runs.callP (N := B22) (W := 0) (as := [.int i1]) (S' := []) d26_2 w134 w135 w136 rfl cw22 ar22 rk26_22_0 (by decide) rfl rfl (X_checkDetached_pay hg2) <| ans1 <| Runs.istoreN (P' := [vr a, vi i1, vi r1]) d26_5 (by decide) rfl <| Runs.iloadN d26_6 rfl <| ?_
  refine ite_el hf (fun hc3 hf => ?_) (fun hc3 hf => ?_)
  · refine Runs.ifY (pc' := 12) d26_7 (teq hc3).1 (by decide) <| ?_
    refine Runs.aloadN d26_12 rfl <| Runs.iloadN d26_13 rfl <| ?_
    refine bind_el hf fun q4 hg5 hf => ?_
    refine Runs.callP (N := B29) (W := 0) (as := [.int i1]) (S' := []) d26_14 w164 w165 w166 rfl cw29 ar29 rk26_29_0 (by decide) rfl rfl (X_zeroLeg_pay hg5) <| ans0 <| Runs.aloadN d26_17 rfl <| ?_
    refine bind_el hf fun q6 hg7 hf => ?_
    refine Runs.callP (N := B30) (W := 0) (as := []) (S' := []) d26_18 w168 w169 w170 rfl cw30 ar30 rk26_30_0 (by decide) rfl rfl (X_markAllDirty_pay hg7) <| ans0 <| Runs.aloadN d26_21 rfl <| Runs.getA d26_22 fA_2 w14 (by decide) <| Runs.iloadN d26_25 rfl <| Runs.iconst d26_26 ci_1 <| ?_
    refine chk_el hf fun hi8 hf => ?_
    obtain rfl := Option.some.inj hf
    exact Runs.iastoreA d26_27 fA_2 (by decide) hi8 <| Runs.iconst d26_28 ci_0 <| Runs.retI d26_29 rfl ⟨by decide, by decide⟩ ⟨rfl, rfl⟩
  · refine Runs.ifN d26_7 (feq hc3).1 <| ?_
    obtain rfl := Option.some.inj hf
    exact Runs.iloadN d26_10 rfl <| Runs.retI d26_11 rfl ⟨by decide, by decide⟩ ⟨rfl, rfl⟩
theorem X_replaceLeg_pay {C : Ctx} {top : Nat} {a : Nat} {H : List (Nat × Nat × Rec)} {res : Int32 × Rec} {NF : Nat} {ob : Rec} {i1 : Int32} (hf : X_replaceLeg NF ob i1 = some res) : Pays C B26 [.ref a, .int i1] (top, (a, 6, ob) :: H) (Ans (some (.int res.1)) (top, (a, 6, res.2) :: H)) :=
  Pays.of pnK (Nat.le_of_ble_eq_true rfl) (P := [vr a, vi i1, vn]) 1 rfl (X_replaceLeg_p ob i1 hf)
def X_staleLeg (ob : Rec) : Option (Int32) :=
  chk (2 : Int32) (0 : Int32) <|
  if (gA ob 2 (0 : Int32)) = (1 : Int32) then
    some (0 : Int32)
  else
    chk (2 : Int32) (1 : Int32) <|
    if (gA ob 2 (1 : Int32)) = (1 : Int32) then
      some (1 : Int32)
    else
      some (-1 : Int32)
set_option maxRecDepth 65536 in
set_option maxHeartbeats 4000000 in
theorem X_staleLeg_p {C : Ctx} {top : Nat} {a : Nat} {H : List (Nat × Nat × Rec)} {ob : Rec} {res : Int32} (hf : X_staleLeg ob = some res) : Runs C B25 0 0 0 [vr a] [] (top, (a, 6, ob) :: H) (Ans (some (.int res)) (top, (a, 6, ob) :: H)) := by
  delta X_staleLeg at hf
  refine Runs.aloadN d25_0 rfl <| Runs.getA d25_1 fA_2 w14 (by decide) <| Runs.iconst d25_4 ci_0 <| ?_
  refine chk_el hf fun hi1 hf => ?_
  refine Runs.ialoadA d25_5 fA_2 (by decide) hi1 <| Runs.iconst d25_6 ci_1 <| ?_
  refine ite_el hf (fun hc2 hf => ?_) (fun hc2 hf => ?_)
  · refine Runs.icN d25_7 (teq hc2).2 <| ?_
    obtain rfl := Option.some.inj hf
    exact Runs.iconst d25_10 ci_0 <| Runs.retI d25_11 rfl ⟨by decide, by decide⟩ ⟨rfl, rfl⟩
  · refine Runs.icY (pc' := 12) d25_7 (feq hc2).2 (by decide) <| ?_
    refine Runs.aloadN d25_12 rfl <| Runs.getA d25_13 fA_2 w14 (by decide) <| Runs.iconst d25_16 ci_1 <| ?_
    refine chk_el hf fun hi3 hf => ?_
    refine Runs.ialoadA d25_17 fA_2 (by decide) hi3 <| Runs.iconst d25_18 ci_1 <| ?_
    refine ite_el hf (fun hc4 hf => ?_) (fun hc4 hf => ?_)
    · refine Runs.icN d25_19 (teq hc4).2 <| ?_
      obtain rfl := Option.some.inj hf
      exact Runs.iconst d25_22 ci_1 <| Runs.retI d25_23 rfl ⟨by decide, by decide⟩ ⟨rfl, rfl⟩
    · refine Runs.icY (pc' := 24) d25_19 (feq hc4).2 (by decide) <| ?_
      obtain rfl := Option.some.inj hf
      exact Runs.iconst d25_24 ci_m1 <| Runs.retI d25_25 rfl ⟨by decide, by decide⟩ ⟨rfl, rfl⟩
theorem X_staleLeg_pay {C : Ctx} {top : Nat} {a : Nat} {H : List (Nat × Nat × Rec)} {ob : Rec} {res : Int32} (hf : X_staleLeg ob = some res) : Pays C B25 [.ref a] (top, (a, 6, ob) :: H) (Ans (some (.int res)) (top, (a, 6, ob) :: H)) :=
  Pays.of pnK (Nat.le_of_ble_eq_true rfl) (P := [vr a]) 0 rfl (X_staleLeg_p hf)
def X_copyDirtyRegions_w73 (NF : Nat) (k14 : Rec → Int32 → Int32 → Int32 → Option (Rec)) (k73 : Rec → Int32 → Int32 → Int32 → Int32 → Int32 → Option (Rec)) (ob : Rec) (i3 : Int32) (i4 : Int32) (i5 : Int32) (i7 : Int32) (i8 : Int32) : Option (Rec) :=
  if i8 < i7 then
    chk (64 : Int32) (i3 + i8) <|
    chk (64 : Int32) (i4 + i8) <|
    k73 (sA ob 0 (i4 + i8) (gA ob 0 (i3 + i8))) i3 i4 i5 i7 (i8 + (1 : Int32))
  else
    k14 ob i3 i4 (i5 + (1 : Int32))
def X_copyDirtyRegions_l73 (NF : Nat) (k14 : Rec → Int32 → Int32 → Int32 → Option (Rec)) : Nat → Rec → Int32 → Int32 → Int32 → Int32 → Int32 → Option (Rec)
  | 0, _, _, _, _, _, _ => none
  | n + 1, ob, i3, i4, i5, i7, i8 => X_copyDirtyRegions_w73 NF k14 (X_copyDirtyRegions_l73 NF k14 n) ob i3 i4 i5 i7 i8
set_option maxRecDepth 65536 in
set_option maxHeartbeats 4000000 in
theorem X_copyDirtyRegions_w73_p {C : Ctx} {top : Nat} {a : Nat} {H : List (Nat × Nat × Rec)} {res : Rec} {NF : Nat} (k14 : Rec → Int32 → Int32 → Int32 → Option (Rec)) (hk14 : ∀ (ob : Rec) (i3 : Int32) (i4 : Int32) (i5 : Int32), k14 ob i3 i4 i5 = some res → Runs C B27 0 0 14 [vr a, vn, vn, vi i3, vi i4, vi i5, vn, vn, vn] [] (top, (a, 6, ob) :: H) (Ans none (top, (a, 6, res) :: H))) (k73 : Rec → Int32 → Int32 → Int32 → Int32 → Int32 → Option (Rec)) (hk73 : ∀ (ob : Rec) (i3 : Int32) (i4 : Int32) (i5 : Int32) (i7 : Int32) (i8 : Int32), k73 ob i3 i4 i5 i7 i8 = some res → Runs C B27 0 0 73 [vr a, vn, vn, vi i3, vi i4, vi i5, vn, vi i7, vi i8] [] (top, (a, 6, ob) :: H) (Ans none (top, (a, 6, res) :: H))) (ob : Rec) (i3 : Int32) (i4 : Int32) (i5 : Int32) (i7 : Int32) (i8 : Int32) (hf : X_copyDirtyRegions_w73 NF k14 k73 ob i3 i4 i5 i7 i8 = some res) : Runs C B27 0 0 73 [vr a, vn, vn, vi i3, vi i4, vi i5, vn, vi i7, vi i8] [] (top, (a, 6, ob) :: H) (Ans none (top, (a, 6, res) :: H)) := by
  delta X_copyDirtyRegions_w73 at hf
  refine Runs.iload d27_73 rfl <| Runs.iload d27_75 rfl <| ?_
  refine ite_el hf (fun hc5 hf => ?_) (fun hc5 hf => ?_)
  · refine Runs.icN d27_77 (tlt hc5).2.1 <| ?_
    refine Runs.aloadN d27_80 rfl <| Runs.getA d27_81 fA_0 w10 (by decide) <| Runs.iload d27_84 rfl <| Runs.iload d27_86 rfl <| Runs.iadd d27_88 <| Runs.aloadN d27_89 rfl <| Runs.getA d27_90 fA_0 w10 (by decide) <| Runs.iloadN d27_93 rfl <| Runs.iload d27_94 rfl <| Runs.iadd d27_96 <| ?_
    refine chk_el hf fun hi6 hf => ?_
    refine Runs.ialoadA d27_97 fA_0 (by decide) hi6 <| ?_
    refine chk_el hf fun hi7 hf => ?_
    exact Runs.iastoreA d27_98 fA_0 (by decide) hi7 <| Runs.iinc (P' := [vr a, vn, vn, vi i3, vi i4, vi i5, vn, vi i7, vi (i8 + (1 : Int32))]) d27_99 ci_1 rfl (by decide) rfl <| Runs.goto (pc' := 73) d27_102 (by decide) <| hk73 (sA ob 0 (i4 + i8) (gA ob 0 (i3 + i8))) i3 i4 i5 i7 (i8 + (1 : Int32)) hf
  · refine Runs.icY (pc' := 105) d27_77 (flt hc5).2.1 (by decide) <| ?_
    exact Runs.iinc (P' := [vr a, vn, vn, vi i3, vi i4, vi (i5 + (1 : Int32)), vn, vi i7, vi i8]) d27_105 ci_1 rfl (by decide) rfl <| Runs.goto (pc' := 14) d27_108 (by decide) <| Runs.forget [true, false, false, true, true, true, false, false, false] rfl <| hk14 ob i3 i4 (i5 + (1 : Int32)) hf
theorem X_copyDirtyRegions_l73_p {C : Ctx} {top : Nat} {a : Nat} {H : List (Nat × Nat × Rec)} {res : Rec} {NF : Nat} (k14 : Rec → Int32 → Int32 → Int32 → Option (Rec)) (hk14 : ∀ (ob : Rec) (i3 : Int32) (i4 : Int32) (i5 : Int32), k14 ob i3 i4 i5 = some res → Runs C B27 0 0 14 [vr a, vn, vn, vi i3, vi i4, vi i5, vn, vn, vn] [] (top, (a, 6, ob) :: H) (Ans none (top, (a, 6, res) :: H))) (n : Nat) (ob : Rec) (i3 : Int32) (i4 : Int32) (i5 : Int32) (i7 : Int32) (i8 : Int32) (hf : X_copyDirtyRegions_l73 NF k14 n ob i3 i4 i5 i7 i8 = some res) : Runs C B27 0 0 73 [vr a, vn, vn, vi i3, vi i4, vi i5, vn, vi i7, vi i8] [] (top, (a, 6, ob) :: H) (Ans none (top, (a, 6, res) :: H)) := by
  induction n generalizing ob i3 i4 i5 i7 i8 with
  | zero => cases (show (none : Option (Rec)) = some res from hf)
  | succ n ih => exact X_copyDirtyRegions_w73_p k14 hk14 (X_copyDirtyRegions_l73 NF k14 n) (fun ob i3 i4 i5 i7 i8 h => ih _ _ _ _ _ _ h) ob i3 i4 i5 i7 i8 hf
def X_copyDirtyRegions_w14 (NF : Nat) (k14 : Rec → Int32 → Int32 → Int32 → Option (Rec)) (ob : Rec) (i3 : Int32) (i4 : Int32) (i5 : Int32) : Option (Rec) :=
  if i5 < (gI ob 3) then
    chk (32 : Int32) i5 <|
    if (gA ob 3 i5) = (0 : Int32) then
      k14 ob i3 i4 (i5 + (1 : Int32))
    else
      if (gI ob 0) < ((i5 * (gI ob 1)) + (gI ob 1)) then
        X_copyDirtyRegions_l73 NF k14 NF ob i3 i4 i5 (gI ob 0) (i5 * (gI ob 1))
      else
        X_copyDirtyRegions_l73 NF k14 NF ob i3 i4 i5 ((i5 * (gI ob 1)) + (gI ob 1)) (i5 * (gI ob 1))
  else
    some ob
def X_copyDirtyRegions_l14 (NF : Nat) : Nat → Rec → Int32 → Int32 → Int32 → Option (Rec)
  | 0, _, _, _, _ => none
  | n + 1, ob, i3, i4, i5 => X_copyDirtyRegions_w14 NF (X_copyDirtyRegions_l14 NF n) ob i3 i4 i5
set_option maxRecDepth 65536 in
set_option maxHeartbeats 4000000 in
theorem X_copyDirtyRegions_w14_p {C : Ctx} {top : Nat} {a : Nat} {H : List (Nat × Nat × Rec)} {res : Rec} {NF : Nat} (k14 : Rec → Int32 → Int32 → Int32 → Option (Rec)) (hk14 : ∀ (ob : Rec) (i3 : Int32) (i4 : Int32) (i5 : Int32), k14 ob i3 i4 i5 = some res → Runs C B27 0 0 14 [vr a, vn, vn, vi i3, vi i4, vi i5, vn, vn, vn] [] (top, (a, 6, ob) :: H) (Ans none (top, (a, 6, res) :: H))) (ob : Rec) (i3 : Int32) (i4 : Int32) (i5 : Int32) (hf : X_copyDirtyRegions_w14 NF k14 ob i3 i4 i5 = some res) : Runs C B27 0 0 14 [vr a, vn, vn, vi i3, vi i4, vi i5, vn, vn, vn] [] (top, (a, 6, ob) :: H) (Ans none (top, (a, 6, res) :: H)) := by
  delta X_copyDirtyRegions_w14 at hf
  refine Runs.iload d27_14 rfl <| Runs.aloadN d27_16 rfl <| Runs.getI d27_17 w32 fS_3 <| ?_
  refine ite_el hf (fun hc1 hf => ?_) (fun hc1 hf => ?_)
  · refine Runs.icN d27_20 (tlt hc1).2.1 <| ?_
    refine Runs.aloadN d27_23 rfl <| Runs.getA d27_24 fA_3 w17 (by decide) <| Runs.iload d27_27 rfl <| ?_
    refine chk_el hf fun hi2 hf => ?_
    refine Runs.baloadA d27_29 fA_3 (by decide) hi2 <| ?_
    refine ite_el hf (fun hc3 hf => ?_) (fun hc3 hf => ?_)
    · refine Runs.ifN d27_30 (teq hc3).2 <| ?_
      exact Runs.goto (pc' := 105) d27_33 (by decide) <| Runs.iinc (P' := [vr a, vn, vn, vi i3, vi i4, vi (i5 + (1 : Int32)), vn, vn, vn]) d27_105 ci_1 rfl (by decide) rfl <| Runs.goto (pc' := 14) d27_108 (by decide) <| hk14 ob i3 i4 (i5 + (1 : Int32)) hf
    · refine Runs.ifY (pc' := 36) d27_30 (feq hc3).2 (by decide) <| ?_
      refine Runs.iload d27_36 rfl <| Runs.aloadN d27_38 rfl <| Runs.getI d27_39 w28 fS_1 <| Runs.imul d27_42 <| Runs.istore (P' := [vr a, vn, vn, vi i3, vi i4, vi i5, vi (i5 * (gI ob 1)), vn, vn]) d27_43 (by decide) rfl <| Runs.iload d27_45 rfl <| Runs.aloadN d27_47 rfl <| Runs.getI d27_48 w28 fS_1 <| Runs.iadd d27_51 <| Runs.istore (P' := [vr a, vn, vn, vi i3, vi i4, vi i5, vi (i5 * (gI ob 1)), vi ((i5 * (gI ob 1)) + (gI ob 1)), vn]) d27_52 (by decide) rfl <| Runs.iload d27_54 rfl <| Runs.aloadN d27_56 rfl <| ?_
      refine Runs.getI d27_57 w26 fS_0 <| ?_
      refine ite_el hf (fun hc4 hf => ?_) (fun hc4 hf => ?_)
      · refine Runs.icN d27_60 (tlt hc4).2.2.2 <| ?_
        exact Runs.aloadN d27_63 rfl <| Runs.getI d27_64 w26 fS_0 <| Runs.istore (P' := [vr a, vn, vn, vi i3, vi i4, vi i5, vi (i5 * (gI ob 1)), vi (gI ob 0), vn]) d27_67 (by decide) rfl <| Runs.iload d27_69 rfl <| Runs.istore (P' := [vr a, vn, vn, vi i3, vi i4, vi i5, vi (i5 * (gI ob 1)), vi (gI ob 0), vi (i5 * (gI ob 1))]) d27_71 (by decide) rfl <| Runs.forget [true, false, false, true, true, true, false, true, true] rfl <| X_copyDirtyRegions_l73_p k14 hk14 NF ob i3 i4 i5 (gI ob 0) (i5 * (gI ob 1)) hf
      · refine Runs.icY (pc' := 69) d27_60 (flt hc4).2.2.2 (by decide) <| ?_
        exact Runs.iload d27_69 rfl <| Runs.istore (P' := [vr a, vn, vn, vi i3, vi i4, vi i5, vi (i5 * (gI ob 1)), vi ((i5 * (gI ob 1)) + (gI ob 1)), vi (i5 * (gI ob 1))]) d27_71 (by decide) rfl <| Runs.forget [true, false, false, true, true, true, false, true, true] rfl <| X_copyDirtyRegions_l73_p k14 hk14 NF ob i3 i4 i5 ((i5 * (gI ob 1)) + (gI ob 1)) (i5 * (gI ob 1)) hf
  · refine Runs.icY (pc' := 111) d27_20 (flt hc1).2.1 (by decide) <| ?_
    obtain rfl := Option.some.inj hf
    exact Runs.retV d27_111 rfl ⟨by decide, by decide⟩ ⟨rfl, rfl⟩
theorem X_copyDirtyRegions_l14_p {C : Ctx} {top : Nat} {a : Nat} {H : List (Nat × Nat × Rec)} {res : Rec} {NF : Nat} (n : Nat) (ob : Rec) (i3 : Int32) (i4 : Int32) (i5 : Int32) (hf : X_copyDirtyRegions_l14 NF n ob i3 i4 i5 = some res) : Runs C B27 0 0 14 [vr a, vn, vn, vi i3, vi i4, vi i5, vn, vn, vn] [] (top, (a, 6, ob) :: H) (Ans none (top, (a, 6, res) :: H)) := by
  induction n generalizing ob i3 i4 i5 with
  | zero => cases (show (none : Option (Rec)) = some res from hf)
  | succ n ih => exact X_copyDirtyRegions_w14_p (X_copyDirtyRegions_l14 NF n) (fun ob i3 i4 i5 h => ih _ _ _ _ h) ob i3 i4 i5 hf
def X_copyDirtyRegions (NF : Nat) (ob : Rec) (i1 : Int32) (i2 : Int32) : Option (Rec) :=
  X_copyDirtyRegions_l14 NF NF ob (i1 * (32 : Int32)) (i2 * (32 : Int32)) (0 : Int32)
set_option maxRecDepth 65536 in
set_option maxHeartbeats 4000000 in
theorem X_copyDirtyRegions_p {C : Ctx} {top : Nat} {a : Nat} {H : List (Nat × Nat × Rec)} {res : Rec} {NF : Nat} (ob : Rec) (i1 : Int32) (i2 : Int32) (hf : X_copyDirtyRegions NF ob i1 i2 = some res) : Runs C B27 0 0 0 [vr a, vi i1, vi i2, vn, vn, vn, vn, vn, vn] [] (top, (a, 6, ob) :: H) (Ans none (top, (a, 6, res) :: H)) := by
  delta X_copyDirtyRegions at hf
  exact Runs.iloadN d27_0 rfl <| Runs.bipush d27_1 cb_32 <| Runs.imul d27_3 <| Runs.istoreN (P' := [vr a, vi i1, vi i2, vi (i1 * (32 : Int32)), vn, vn, vn, vn, vn]) d27_4 (by decide) rfl <| Runs.iloadN d27_5 rfl <| Runs.bipush d27_6 cb_32 <| Runs.imul d27_8 <| Runs.istore (P' := [vr a, vi i1, vi i2, vi (i1 * (32 : Int32)), vi (i2 * (32 : Int32)), vn, vn, vn, vn]) d27_9 (by decide) rfl <| Runs.iconst d27_11 ci_0 <| Runs.istore (P' := [vr a, vi i1, vi i2, vi (i1 * (32 : Int32)), vi (i2 * (32 : Int32)), vi (0 : Int32), vn, vn, vn]) d27_12 (by decide) rfl <| Runs.forget [true, false, false, true, true, true, false, false, false] rfl <| X_copyDirtyRegions_l14_p NF ob (i1 * (32 : Int32)) (i2 * (32 : Int32)) (0 : Int32) hf
theorem X_copyDirtyRegions_pay {C : Ctx} {top : Nat} {a : Nat} {H : List (Nat × Nat × Rec)} {res : Rec} {NF : Nat} {ob : Rec} {i1 : Int32} {i2 : Int32} (hf : X_copyDirtyRegions NF ob i1 i2 = some res) : Pays C B27 [.ref a, .int i1, .int i2] (top, (a, 6, ob) :: H) (Ans none (top, (a, 6, res) :: H)) :=
  Pays.of pnK (Nat.le_of_ble_eq_true rfl) (P := [vr a, vi i1, vi i2, vn, vn, vn, vn, vn, vn]) 6 rfl (X_copyDirtyRegions_p ob i1 i2 hf)
def X_clearBitmap_w2 (NF : Nat) (k2 : Rec → Int32 → Option (Rec)) (ob : Rec) (i1 : Int32) : Option (Rec) :=
  if i1 < (32 : Int32) then
    chk (32 : Int32) i1 <|
    chk (32 : Int32) i1 <|
    chk (32 : Int32) i1 <|
    k2 (sA (sA (sA ob 3 i1 (0 : Int32)) 4 i1 (0 : Int32)) 5 i1 (0 : Int32)) (i1 + (1 : Int32))
  else
    some ob
def X_clearBitmap_l2 (NF : Nat) : Nat → Rec → Int32 → Option (Rec)
  | 0, _, _ => none
  | n + 1, ob, i1 => X_clearBitmap_w2 NF (X_clearBitmap_l2 NF n) ob i1
set_option maxRecDepth 65536 in
set_option maxHeartbeats 4000000 in
theorem X_clearBitmap_w2_p {C : Ctx} {top : Nat} {a : Nat} {H : List (Nat × Nat × Rec)} {res : Rec} {NF : Nat} (k2 : Rec → Int32 → Option (Rec)) (hk2 : ∀ (ob : Rec) (i1 : Int32), k2 ob i1 = some res → Runs C B28 0 0 2 [vr a, vi i1] [] (top, (a, 6, ob) :: H) (Ans none (top, (a, 6, res) :: H))) (ob : Rec) (i1 : Int32) (hf : X_clearBitmap_w2 NF k2 ob i1 = some res) : Runs C B28 0 0 2 [vr a, vi i1] [] (top, (a, 6, ob) :: H) (Ans none (top, (a, 6, res) :: H)) := by
  delta X_clearBitmap_w2 at hf
  refine Runs.iloadN d28_2 rfl <| Runs.bipush d28_3 cb_32 <| ?_
  refine ite_el hf (fun hc1 hf => ?_) (fun hc1 hf => ?_)
  · refine Runs.icN d28_5 (tlt hc1).2.1 <| ?_
    refine Runs.aloadN d28_8 rfl <| Runs.getA d28_9 fA_3 w17 (by decide) <| Runs.iloadN d28_12 rfl <| Runs.iconst d28_13 ci_0 <| ?_
    refine chk_el hf fun hi2 hf => ?_
    refine Runs.bastoreA (y := (0 : Int32)) d28_14 fA_3 (by decide) hi2 rfl <| Runs.aloadN d28_15 rfl <| Runs.getA d28_16 fA_4 w19 (by decide) <| Runs.iloadN d28_19 rfl <| Runs.iconst d28_20 ci_0 <| ?_
    refine chk_el hf fun hi3 hf => ?_
    refine Runs.bastoreA (y := (0 : Int32)) d28_21 fA_4 (by decide) hi3 rfl <| Runs.aloadN d28_22 rfl <| Runs.getA d28_23 fA_5 w21 (by decide) <| Runs.iloadN d28_26 rfl <| Runs.iconst d28_27 ci_0 <| ?_
    refine chk_el hf fun hi4 hf => ?_
    exact Runs.iastoreA d28_28 fA_5 (by decide) hi4 <| Runs.iinc (P' := [vr a, vi (i1 + (1 : Int32))]) d28_29 ci_1 rfl (by decide) rfl <| Runs.goto (pc' := 2) d28_32 (by decide) <| hk2 (sA (sA (sA ob 3 i1 (0 : Int32)) 4 i1 (0 : Int32)) 5 i1 (0 : Int32)) (i1 + (1 : Int32)) hf
  · refine Runs.icY (pc' := 35) d28_5 (flt hc1).2.1 (by decide) <| ?_
    obtain rfl := Option.some.inj hf
    exact Runs.retV d28_35 rfl ⟨by decide, by decide⟩ ⟨rfl, rfl⟩
theorem X_clearBitmap_l2_p {C : Ctx} {top : Nat} {a : Nat} {H : List (Nat × Nat × Rec)} {res : Rec} {NF : Nat} (n : Nat) (ob : Rec) (i1 : Int32) (hf : X_clearBitmap_l2 NF n ob i1 = some res) : Runs C B28 0 0 2 [vr a, vi i1] [] (top, (a, 6, ob) :: H) (Ans none (top, (a, 6, res) :: H)) := by
  induction n generalizing ob i1 with
  | zero => cases (show (none : Option (Rec)) = some res from hf)
  | succ n ih => exact X_clearBitmap_w2_p (X_clearBitmap_l2 NF n) (fun ob i1 h => ih _ _ h) ob i1 hf
def X_clearBitmap (NF : Nat) (ob : Rec) : Option (Rec) :=
  X_clearBitmap_l2 NF NF ob (0 : Int32)
set_option maxRecDepth 65536 in
set_option maxHeartbeats 4000000 in
theorem X_clearBitmap_p {C : Ctx} {top : Nat} {a : Nat} {H : List (Nat × Nat × Rec)} {res : Rec} {NF : Nat} (ob : Rec) (hf : X_clearBitmap NF ob = some res) : Runs C B28 0 0 0 [vr a, vn] [] (top, (a, 6, ob) :: H) (Ans none (top, (a, 6, res) :: H)) := by
  delta X_clearBitmap at hf
  exact Runs.iconst d28_0 ci_0 <| Runs.istoreN (P' := [vr a, vi (0 : Int32)]) d28_1 (by decide) rfl <| X_clearBitmap_l2_p NF ob (0 : Int32) hf
theorem X_clearBitmap_pay {C : Ctx} {top : Nat} {a : Nat} {H : List (Nat × Nat × Rec)} {res : Rec} {NF : Nat} {ob : Rec} (hf : X_clearBitmap NF ob = some res) : Pays C B28 [.ref a] (top, (a, 6, ob) :: H) (Ans none (top, (a, 6, res) :: H)) :=
  Pays.of pnK (Nat.le_of_ble_eq_true rfl) (P := [vr a, vn]) 1 rfl (X_clearBitmap_p ob hf)
def X_resync (NF : Nat) (ob : Rec) : Option (Int32 × Rec) :=
  if (gI ob 4) = (0 : Int32) then
    if (gI ob 5) = (0 : Int32) then
      (X_staleLeg ob).bind fun r3 =>
      if r3 = (-1 : Int32) then
        some ((-4 : Int32), ob)
      else
        (X_copyDirtyRegions NF ob ((1 : Int32) - r3) r3).bind fun q6 =>
        (X_clearBitmap NF q6).bind fun q8 =>
        chk (2 : Int32) r3 <|
        some ((0 : Int32), (sA q8 2 r3 (0 : Int32)))
    else
      some ((-3 : Int32), ob)
  else
    some ((-1 : Int32), ob)
set_option maxRecDepth 65536 in
set_option maxHeartbeats 4000000 in
theorem X_resync_p {C : Ctx} {top : Nat} {a : Nat} {H : List (Nat × Nat × Rec)} {res : Int32 × Rec} {NF : Nat} (ob : Rec) (hf : X_resync NF ob = some res) : Runs C B24 0 0 0 [vr a, vn] [] (top, (a, 6, ob) :: H) (Ans (some (.int res.1)) (top, (a, 6, res.2) :: H)) := by
  delta X_resync at hf
  refine Runs.aloadN d24_0 rfl <| Runs.getI d24_1 w34 fS_4 <| ?_
  refine ite_el hf (fun hc1 hf => ?_) (fun hc1 hf => ?_)
  · refine Runs.ifY (pc' := 9) d24_4 (teq hc1).1 (by decide) <| ?_
    refine Runs.aloadN d24_9 rfl <| Runs.getI d24_10 w36 fS_5 <| ?_
    refine ite_el hf (fun hc2 hf => ?_) (fun hc2 hf => ?_)
    · refine Runs.ifY (pc' := 19) d24_13 (teq hc2).1 (by decide) <| ?_
      refine Runs.aloadN d24_19 rfl <| ?_
      refine bind_el hf fun r3 hg4 hf => ?_
      refine Runs.callP (N := B25) (W := 0) (as := []) (S' := []) d24_20 w147 w148 w149 rfl cw25 ar25 rk24_25_0 (by decide) rfl rfl (X_staleLeg_pay hg4) <| ans1 <| Runs.istoreN (P' := [vr a, vi r3]) d24_23 (by decide) rfl <| Runs.iloadN d24_24 rfl <| Runs.iconst d24_25 ci_m1 <| ?_
      refine ite_el hf (fun hc5 hf => ?_) (fun hc5 hf => ?_)
      · refine Runs.icN d24_26 (teq hc5).2 <| ?_
        obtain rfl := Option.some.inj hf
        exact Runs.bipush d24_29 cb_m4 <| Runs.retI d24_31 rfl ⟨by decide, by decide⟩ ⟨rfl, rfl⟩
      · refine Runs.icY (pc' := 32) d24_26 (feq hc5).2 (by decide) <| ?_
        refine Runs.aloadN d24_32 rfl <| Runs.iconst d24_33 ci_1 <| Runs.iloadN d24_34 rfl <| Runs.isub d24_35 <| Runs.iloadN d24_36 rfl <| ?_
        refine bind_el hf fun q6 hg7 hf => ?_
        refine Runs.callP (N := B27) (W := 0) (as := [.int ((1 : Int32) - r3), .int r3]) (S' := []) d24_37 w156 w157 w158 rfl cw27 ar27 rk24_27_0 (by decide) rfl rfl (X_copyDirtyRegions_pay hg7) <| ans0 <| Runs.aloadN d24_40 rfl <| ?_
        refine bind_el hf fun q8 hg9 hf => ?_
        refine Runs.callP (N := B28) (W := 0) (as := []) (S' := []) d24_41 w160 w161 w162 rfl cw28 ar28 rk24_28_0 (by decide) rfl rfl (X_clearBitmap_pay hg9) <| ans0 <| Runs.aloadN d24_44 rfl <| Runs.getA d24_45 fA_2 w14 (by decide) <| Runs.iloadN d24_48 rfl <| Runs.iconst d24_49 ci_0 <| ?_
        refine chk_el hf fun hi10 hf => ?_
        obtain rfl := Option.some.inj hf
        exact Runs.iastoreA d24_50 fA_2 (by decide) hi10 <| Runs.iconst d24_51 ci_0 <| Runs.retI d24_52 rfl ⟨by decide, by decide⟩ ⟨rfl, rfl⟩
    · refine Runs.ifN d24_13 (feq hc2).1 <| ?_
      obtain rfl := Option.some.inj hf
      exact Runs.bipush d24_16 cb_m3 <| Runs.retI d24_18 rfl ⟨by decide, by decide⟩ ⟨rfl, rfl⟩
  · refine Runs.ifN d24_4 (feq hc1).1 <| ?_
    obtain rfl := Option.some.inj hf
    exact Runs.iconst d24_7 ci_m1 <| Runs.retI d24_8 rfl ⟨by decide, by decide⟩ ⟨rfl, rfl⟩
theorem X_resync_pay {C : Ctx} {top : Nat} {a : Nat} {H : List (Nat × Nat × Rec)} {res : Int32 × Rec} {NF : Nat} {ob : Rec} (hf : X_resync NF ob = some res) : Pays C B24 [.ref a] (top, (a, 6, ob) :: H) (Ans (some (.int res.1)) (top, (a, 6, res.2) :: H)) :=
  Pays.of pnK (Nat.le_of_ble_eq_true rfl) (P := [vr a, vn]) 1 rfl (X_resync_p ob hf)
def X_ageOthers_w2 (NF : Nat) (k2 : Rec → Int32 → Int32 → Option (Rec)) (ob : Rec) (i1 : Int32) (i2 : Int32) : Option (Rec) :=
  if i2 < (gI ob 3) then
    if i2 = i1 then
      k2 ob i1 (i2 + (1 : Int32))
    else
      chk (32 : Int32) i2 <|
      if (gA ob 4 i2) = (0 : Int32) then
        k2 ob i1 (i2 + (1 : Int32))
      else
        chk (32 : Int32) i2 <|
        if (gA ob 5 i2) < (gI ob 2) then
          chk (32 : Int32) i2 <|
          chk (32 : Int32) i2 <|
          k2 (sA ob 5 i2 ((gA ob 5 i2) + (1 : Int32))) i1 (i2 + (1 : Int32))
        else
          k2 ob i1 (i2 + (1 : Int32))
  else
    some ob
def X_ageOthers_l2 (NF : Nat) : Nat → Rec → Int32 → Int32 → Option (Rec)
  | 0, _, _, _ => none
  | n + 1, ob, i1, i2 => X_ageOthers_w2 NF (X_ageOthers_l2 NF n) ob i1 i2
set_option maxRecDepth 65536 in
set_option maxHeartbeats 4000000 in
theorem X_ageOthers_w2_p {C : Ctx} {top : Nat} {a : Nat} {H : List (Nat × Nat × Rec)} {res : Rec} {NF : Nat} (k2 : Rec → Int32 → Int32 → Option (Rec)) (hk2 : ∀ (ob : Rec) (i1 : Int32) (i2 : Int32), k2 ob i1 i2 = some res → Runs C B32 0 0 2 [vr a, vi i1, vi i2] [] (top, (a, 6, ob) :: H) (Ans none (top, (a, 6, res) :: H))) (ob : Rec) (i1 : Int32) (i2 : Int32) (hf : X_ageOthers_w2 NF k2 ob i1 i2 = some res) : Runs C B32 0 0 2 [vr a, vi i1, vi i2] [] (top, (a, 6, ob) :: H) (Ans none (top, (a, 6, res) :: H)) := by
  delta X_ageOthers_w2 at hf
  refine Runs.iloadN d32_2 rfl <| Runs.aloadN d32_3 rfl <| Runs.getI d32_4 w32 fS_3 <| ?_
  refine ite_el hf (fun hc1 hf => ?_) (fun hc1 hf => ?_)
  · refine Runs.icN d32_7 (tlt hc1).2.1 <| ?_
    refine Runs.iloadN d32_10 rfl <| Runs.iloadN d32_11 rfl <| ?_
    refine ite_el hf (fun hc2 hf => ?_) (fun hc2 hf => ?_)
    · refine Runs.icY (pc' := 47) d32_12 (teq hc2).1 (by decide) <| ?_
      exact Runs.iinc (P' := [vr a, vi i1, vi (i2 + (1 : Int32))]) d32_47 ci_1 rfl (by decide) rfl <| Runs.goto (pc' := 2) d32_50 (by decide) <| hk2 ob i1 (i2 + (1 : Int32)) hf
    · refine Runs.icN d32_12 (feq hc2).1 <| ?_
      refine Runs.aloadN d32_15 rfl <| Runs.getA d32_16 fA_4 w19 (by decide) <| Runs.iloadN d32_19 rfl <| ?_
      refine chk_el hf fun hi3 hf => ?_
      refine Runs.baloadA d32_20 fA_4 (by decide) hi3 <| ?_
      refine ite_el hf (fun hc4 hf => ?_) (fun hc4 hf => ?_)
      · refine Runs.ifY (pc' := 47) d32_21 (teq hc4).1 (by decide) <| ?_
        exact Runs.iinc (P' := [vr a, vi i1, vi (i2 + (1 : Int32))]) d32_47 ci_1 rfl (by decide) rfl <| Runs.goto (pc' := 2) d32_50 (by decide) <| hk2 ob i1 (i2 + (1 : Int32)) hf
      · refine Runs.ifN d32_21 (feq hc4).1 <| ?_
        refine Runs.aloadN d32_24 rfl <| Runs.getA d32_25 fA_5 w21 (by decide) <| Runs.iloadN d32_28 rfl <| ?_
        refine chk_el hf fun hi5 hf => ?_
        refine Runs.ialoadA d32_29 fA_5 (by decide) hi5 <| Runs.aloadN d32_30 rfl <| Runs.getI d32_31 w30 fS_2 <| ?_
        refine ite_el hf (fun hc6 hf => ?_) (fun hc6 hf => ?_)
        · refine Runs.icN d32_34 (tlt hc6).2.1 <| ?_
          refine Runs.aloadN d32_37 rfl <| Runs.getA d32_38 fA_5 w21 (by decide) <| Runs.iloadN d32_41 rfl <| Runs.dup2 d32_42 rfl rfl <| ?_
          refine chk_el hf fun hi7 hf => ?_
          refine Runs.ialoadA d32_43 fA_5 (by decide) hi7 <| Runs.iconst d32_44 ci_1 <| Runs.iadd d32_45 <| ?_
          refine chk_el hf fun hi8 hf => ?_
          exact Runs.iastoreA d32_46 fA_5 (by decide) hi8 <| Runs.iinc (P' := [vr a, vi i1, vi (i2 + (1 : Int32))]) d32_47 ci_1 rfl (by decide) rfl <| Runs.goto (pc' := 2) d32_50 (by decide) <| hk2 (sA ob 5 i2 ((gA ob 5 i2) + (1 : Int32))) i1 (i2 + (1 : Int32)) hf
        · refine Runs.icY (pc' := 47) d32_34 (flt hc6).2.1 (by decide) <| ?_
          exact Runs.iinc (P' := [vr a, vi i1, vi (i2 + (1 : Int32))]) d32_47 ci_1 rfl (by decide) rfl <| Runs.goto (pc' := 2) d32_50 (by decide) <| hk2 ob i1 (i2 + (1 : Int32)) hf
  · refine Runs.icY (pc' := 53) d32_7 (flt hc1).2.1 (by decide) <| ?_
    obtain rfl := Option.some.inj hf
    exact Runs.retV d32_53 rfl ⟨by decide, by decide⟩ ⟨rfl, rfl⟩
theorem X_ageOthers_l2_p {C : Ctx} {top : Nat} {a : Nat} {H : List (Nat × Nat × Rec)} {res : Rec} {NF : Nat} (n : Nat) (ob : Rec) (i1 : Int32) (i2 : Int32) (hf : X_ageOthers_l2 NF n ob i1 i2 = some res) : Runs C B32 0 0 2 [vr a, vi i1, vi i2] [] (top, (a, 6, ob) :: H) (Ans none (top, (a, 6, res) :: H)) := by
  induction n generalizing ob i1 i2 with
  | zero => cases (show (none : Option (Rec)) = some res from hf)
  | succ n ih => exact X_ageOthers_w2_p (X_ageOthers_l2 NF n) (fun ob i1 i2 h => ih _ _ _ h) ob i1 i2 hf
def X_ageOthers (NF : Nat) (ob : Rec) (i1 : Int32) : Option (Rec) :=
  X_ageOthers_l2 NF NF ob i1 (0 : Int32)
set_option maxRecDepth 65536 in
set_option maxHeartbeats 4000000 in
theorem X_ageOthers_p {C : Ctx} {top : Nat} {a : Nat} {H : List (Nat × Nat × Rec)} {res : Rec} {NF : Nat} (ob : Rec) (i1 : Int32) (hf : X_ageOthers NF ob i1 = some res) : Runs C B32 0 0 0 [vr a, vi i1, vn] [] (top, (a, 6, ob) :: H) (Ans none (top, (a, 6, res) :: H)) := by
  delta X_ageOthers at hf
  exact Runs.iconst d32_0 ci_0 <| Runs.istoreN (P' := [vr a, vi i1, vi (0 : Int32)]) d32_1 (by decide) rfl <| X_ageOthers_l2_p NF ob i1 (0 : Int32) hf
theorem X_ageOthers_pay {C : Ctx} {top : Nat} {a : Nat} {H : List (Nat × Nat × Rec)} {res : Rec} {NF : Nat} {ob : Rec} {i1 : Int32} (hf : X_ageOthers NF ob i1 = some res) : Pays C B32 [.ref a, .int i1] (top, (a, 6, ob) :: H) (Ans none (top, (a, 6, res) :: H)) :=
  Pays.of pnK (Nat.le_of_ble_eq_true rfl) (P := [vr a, vi i1, vn]) 1 rfl (X_ageOthers_p ob i1 hf)
def X_bothActive (ob : Rec) : Option (Int32) :=
  chk (2 : Int32) (0 : Int32) <|
  if (gA ob 2 (0 : Int32)) = (0 : Int32) then
    chk (2 : Int32) (1 : Int32) <|
    if (gA ob 2 (1 : Int32)) = (0 : Int32) then
      some (1 : Int32)
    else
      some (0 : Int32)
  else
    some (0 : Int32)
set_option maxRecDepth 65536 in
set_option maxHeartbeats 4000000 in
theorem X_bothActive_p {C : Ctx} {top : Nat} {a : Nat} {H : List (Nat × Nat × Rec)} {ob : Rec} {res : Int32} (hf : X_bothActive ob = some res) : Runs C B33 0 0 0 [vr a] [] (top, (a, 6, ob) :: H) (Ans (some (.int res)) (top, (a, 6, ob) :: H)) := by
  delta X_bothActive at hf
  refine Runs.aloadN d33_0 rfl <| Runs.getA d33_1 fA_2 w14 (by decide) <| Runs.iconst d33_4 ci_0 <| ?_
  refine chk_el hf fun hi1 hf => ?_
  refine Runs.ialoadA d33_5 fA_2 (by decide) hi1 <| ?_
  refine ite_el hf (fun hc2 hf => ?_) (fun hc2 hf => ?_)
  · refine Runs.ifN d33_6 (teq hc2).2 <| ?_
    refine Runs.aloadN d33_9 rfl <| Runs.getA d33_10 fA_2 w14 (by decide) <| Runs.iconst d33_13 ci_1 <| ?_
    refine chk_el hf fun hi3 hf => ?_
    refine Runs.ialoadA d33_14 fA_2 (by decide) hi3 <| ?_
    refine ite_el hf (fun hc4 hf => ?_) (fun hc4 hf => ?_)
    · refine Runs.ifN d33_15 (teq hc4).2 <| ?_
      obtain rfl := Option.some.inj hf
      exact Runs.iconst d33_18 ci_1 <| Runs.goto (pc' := 23) d33_19 (by decide) <| Runs.retZ (y := (1 : Int32)) d33_23 rfl ⟨by decide, by decide⟩ rfl ⟨rfl, rfl⟩
    · refine Runs.ifY (pc' := 22) d33_15 (feq hc4).2 (by decide) <| ?_
      obtain rfl := Option.some.inj hf
      exact Runs.iconst d33_22 ci_0 <| Runs.retZ (y := (0 : Int32)) d33_23 rfl ⟨by decide, by decide⟩ rfl ⟨rfl, rfl⟩
  · refine Runs.ifY (pc' := 22) d33_6 (feq hc2).2 (by decide) <| ?_
    obtain rfl := Option.some.inj hf
    exact Runs.iconst d33_22 ci_0 <| Runs.retZ (y := (0 : Int32)) d33_23 rfl ⟨by decide, by decide⟩ rfl ⟨rfl, rfl⟩
theorem X_bothActive_pay {C : Ctx} {top : Nat} {a : Nat} {H : List (Nat × Nat × Rec)} {ob : Rec} {res : Int32} (hf : X_bothActive ob = some res) : Pays C B33 [.ref a] (top, (a, 6, ob) :: H) (Ans (some (.int res)) (top, (a, 6, ob) :: H)) :=
  Pays.of pnK (Nat.le_of_ble_eq_true rfl) (P := [vr a]) 0 rfl (X_bothActive_p hf)
def X_clearAged_w2 (NF : Nat) (k2 : Rec → Int32 → Option (Rec)) (ob : Rec) (i1 : Int32) : Option (Rec) :=
  if i1 < (gI ob 3) then
    chk (32 : Int32) i1 <|
    if (gA ob 3 i1) = (0 : Int32) then
      k2 ob (i1 + (1 : Int32))
    else
      chk (32 : Int32) i1 <|
      if (gA ob 4 i1) = (0 : Int32) then
        k2 ob (i1 + (1 : Int32))
      else
        chk (32 : Int32) i1 <|
        if (gA ob 5 i1) < (gI ob 2) then
          k2 ob (i1 + (1 : Int32))
        else
          chk (32 : Int32) i1 <|
          chk (32 : Int32) i1 <|
          chk (32 : Int32) i1 <|
          k2 (sA (sA (sA ob 3 i1 (0 : Int32)) 4 i1 (0 : Int32)) 5 i1 (0 : Int32)) (i1 + (1 : Int32))
  else
    some ob
def X_clearAged_l2 (NF : Nat) : Nat → Rec → Int32 → Option (Rec)
  | 0, _, _ => none
  | n + 1, ob, i1 => X_clearAged_w2 NF (X_clearAged_l2 NF n) ob i1
set_option maxRecDepth 65536 in
set_option maxHeartbeats 4000000 in
theorem X_clearAged_w2_p {C : Ctx} {top : Nat} {a : Nat} {H : List (Nat × Nat × Rec)} {res : Rec} {NF : Nat} (k2 : Rec → Int32 → Option (Rec)) (hk2 : ∀ (ob : Rec) (i1 : Int32), k2 ob i1 = some res → Runs C B34 0 0 2 [vr a, vi i1] [] (top, (a, 6, ob) :: H) (Ans none (top, (a, 6, res) :: H))) (ob : Rec) (i1 : Int32) (hf : X_clearAged_w2 NF k2 ob i1 = some res) : Runs C B34 0 0 2 [vr a, vi i1] [] (top, (a, 6, ob) :: H) (Ans none (top, (a, 6, res) :: H)) := by
  delta X_clearAged_w2 at hf
  refine Runs.iloadN d34_2 rfl <| Runs.aloadN d34_3 rfl <| Runs.getI d34_4 w32 fS_3 <| ?_
  refine ite_el hf (fun hc1 hf => ?_) (fun hc1 hf => ?_)
  · refine Runs.icN d34_7 (tlt hc1).2.1 <| ?_
    refine Runs.aloadN d34_10 rfl <| Runs.getA d34_11 fA_3 w17 (by decide) <| Runs.iloadN d34_14 rfl <| ?_
    refine chk_el hf fun hi2 hf => ?_
    refine Runs.baloadA d34_15 fA_3 (by decide) hi2 <| ?_
    refine ite_el hf (fun hc3 hf => ?_) (fun hc3 hf => ?_)
    · refine Runs.ifY (pc' := 62) d34_16 (teq hc3).1 (by decide) <| ?_
      exact Runs.iinc (P' := [vr a, vi (i1 + (1 : Int32))]) d34_62 ci_1 rfl (by decide) rfl <| Runs.goto (pc' := 2) d34_65 (by decide) <| hk2 ob (i1 + (1 : Int32)) hf
    · refine Runs.ifN d34_16 (feq hc3).1 <| ?_
      refine Runs.aloadN d34_19 rfl <| Runs.getA d34_20 fA_4 w19 (by decide) <| Runs.iloadN d34_23 rfl <| ?_
      refine chk_el hf fun hi4 hf => ?_
      refine Runs.baloadA d34_24 fA_4 (by decide) hi4 <| ?_
      refine ite_el hf (fun hc5 hf => ?_) (fun hc5 hf => ?_)
      · refine Runs.ifY (pc' := 62) d34_25 (teq hc5).1 (by decide) <| ?_
        exact Runs.iinc (P' := [vr a, vi (i1 + (1 : Int32))]) d34_62 ci_1 rfl (by decide) rfl <| Runs.goto (pc' := 2) d34_65 (by decide) <| hk2 ob (i1 + (1 : Int32)) hf
      · refine Runs.ifN d34_25 (feq hc5).1 <| ?_
        refine Runs.aloadN d34_28 rfl <| Runs.getA d34_29 fA_5 w21 (by decide) <| Runs.iloadN d34_32 rfl <| ?_
        refine chk_el hf fun hi6 hf => ?_
        refine Runs.ialoadA d34_33 fA_5 (by decide) hi6 <| Runs.aloadN d34_34 rfl <| Runs.getI d34_35 w30 fS_2 <| ?_
        refine ite_el hf (fun hc7 hf => ?_) (fun hc7 hf => ?_)
        · refine Runs.icY (pc' := 62) d34_38 (tlt hc7).1 (by decide) <| ?_
          exact Runs.iinc (P' := [vr a, vi (i1 + (1 : Int32))]) d34_62 ci_1 rfl (by decide) rfl <| Runs.goto (pc' := 2) d34_65 (by decide) <| hk2 ob (i1 + (1 : Int32)) hf
        · refine Runs.icN d34_38 (flt hc7).1 <| ?_
          refine Runs.aloadN d34_41 rfl <| Runs.getA d34_42 fA_3 w17 (by decide) <| Runs.iloadN d34_45 rfl <| Runs.iconst d34_46 ci_0 <| ?_
          refine chk_el hf fun hi8 hf => ?_
          refine Runs.bastoreA (y := (0 : Int32)) d34_47 fA_3 (by decide) hi8 rfl <| Runs.aloadN d34_48 rfl <| Runs.getA d34_49 fA_4 w19 (by decide) <| Runs.iloadN d34_52 rfl <| Runs.iconst d34_53 ci_0 <| ?_
          refine chk_el hf fun hi9 hf => ?_
          refine Runs.bastoreA (y := (0 : Int32)) d34_54 fA_4 (by decide) hi9 rfl <| Runs.aloadN d34_55 rfl <| Runs.getA d34_56 fA_5 w21 (by decide) <| Runs.iloadN d34_59 rfl <| Runs.iconst d34_60 ci_0 <| ?_
          refine chk_el hf fun hi10 hf => ?_
          exact Runs.iastoreA d34_61 fA_5 (by decide) hi10 <| Runs.iinc (P' := [vr a, vi (i1 + (1 : Int32))]) d34_62 ci_1 rfl (by decide) rfl <| Runs.goto (pc' := 2) d34_65 (by decide) <| hk2 (sA (sA (sA ob 3 i1 (0 : Int32)) 4 i1 (0 : Int32)) 5 i1 (0 : Int32)) (i1 + (1 : Int32)) hf
  · refine Runs.icY (pc' := 68) d34_7 (flt hc1).2.1 (by decide) <| ?_
    obtain rfl := Option.some.inj hf
    exact Runs.retV d34_68 rfl ⟨by decide, by decide⟩ ⟨rfl, rfl⟩
theorem X_clearAged_l2_p {C : Ctx} {top : Nat} {a : Nat} {H : List (Nat × Nat × Rec)} {res : Rec} {NF : Nat} (n : Nat) (ob : Rec) (i1 : Int32) (hf : X_clearAged_l2 NF n ob i1 = some res) : Runs C B34 0 0 2 [vr a, vi i1] [] (top, (a, 6, ob) :: H) (Ans none (top, (a, 6, res) :: H)) := by
  induction n generalizing ob i1 with
  | zero => cases (show (none : Option (Rec)) = some res from hf)
  | succ n ih => exact X_clearAged_w2_p (X_clearAged_l2 NF n) (fun ob i1 h => ih _ _ h) ob i1 hf
def X_clearAged (NF : Nat) (ob : Rec) : Option (Rec) :=
  X_clearAged_l2 NF NF ob (0 : Int32)
set_option maxRecDepth 65536 in
set_option maxHeartbeats 4000000 in
theorem X_clearAged_p {C : Ctx} {top : Nat} {a : Nat} {H : List (Nat × Nat × Rec)} {res : Rec} {NF : Nat} (ob : Rec) (hf : X_clearAged NF ob = some res) : Runs C B34 0 0 0 [vr a, vn] [] (top, (a, 6, ob) :: H) (Ans none (top, (a, 6, res) :: H)) := by
  delta X_clearAged at hf
  exact Runs.iconst d34_0 ci_0 <| Runs.istoreN (P' := [vr a, vi (0 : Int32)]) d34_1 (by decide) rfl <| X_clearAged_l2_p NF ob (0 : Int32) hf
theorem X_clearAged_pay {C : Ctx} {top : Nat} {a : Nat} {H : List (Nat × Nat × Rec)} {res : Rec} {NF : Nat} {ob : Rec} (hf : X_clearAged NF ob = some res) : Pays C B34 [.ref a] (top, (a, 6, ob) :: H) (Ans none (top, (a, 6, res) :: H)) :=
  Pays.of pnK (Nat.le_of_ble_eq_true rfl) (P := [vr a, vn]) 1 rfl (X_clearAged_p ob hf)
def X_acknowledge (NF : Nat) (ob : Rec) : Option (Rec) :=
  chk (32 : Int32) (gI ob 6) <|
  (X_clearPending (sA ob 1 (gI ob 6) (gI ob 7))).bind fun q2 =>
  dvz (gI q2 1) <|
  (X_ageOthers NF q2 ((gI ob 6) / (gI q2 1))).bind fun q5 =>
  chk (32 : Int32) ((gI ob 6) / (gI q2 1)) <|
  chk (32 : Int32) ((gI ob 6) / (gI q2 1)) <|
  (X_bothActive (sA (sA q5 4 ((gI ob 6) / (gI q2 1)) (1 : Int32)) 5 ((gI ob 6) / (gI q2 1)) (0 : Int32))).bind fun r9 =>
  if r9 = (0 : Int32) then
    some (sA (sA q5 4 ((gI ob 6) / (gI q2 1)) (1 : Int32)) 5 ((gI ob 6) / (gI q2 1)) (0 : Int32))
  else
    (X_clearAged NF (sA (sA q5 4 ((gI ob 6) / (gI q2 1)) (1 : Int32)) 5 ((gI ob 6) / (gI q2 1)) (0 : Int32))).bind fun q12 =>
    some q12
set_option maxRecDepth 65536 in
set_option maxHeartbeats 4000000 in
theorem X_acknowledge_p {C : Ctx} {top : Nat} {a : Nat} {H : List (Nat × Nat × Rec)} {res : Rec} {NF : Nat} (ob : Rec) (hf : X_acknowledge NF ob = some res) : Runs C B31 0 0 0 [vr a, vn, vn] [] (top, (a, 6, ob) :: H) (Ans none (top, (a, 6, res) :: H)) := by
  delta X_acknowledge at hf
  refine Runs.aloadN d31_0 rfl <| Runs.getI d31_1 w38 fS_6 <| Runs.istoreN (P' := [vr a, vi (gI ob 6), vn]) d31_4 (by decide) rfl <| Runs.aloadN d31_5 rfl <| Runs.getA d31_6 fA_1 w12 (by decide) <| Runs.iloadN d31_9 rfl <| Runs.aloadN d31_10 rfl <| Runs.getI d31_11 w40 fS_7 <| ?_
  refine chk_el hf fun hi1 hf => ?_
  refine Runs.iastoreA d31_14 fA_1 (by decide) hi1 <| Runs.aloadN d31_15 rfl <| ?_
  refine bind_el hf fun q2 hg3 hf => ?_
  refine Runs.callP (N := B4) (W := 0) (as := []) (S' := []) d31_16 w49 w50 w51 rfl cw4 ar4 rk31_4_0 (by decide) rfl rfl (X_clearPending_pay hg3) <| ans0 <| Runs.iloadN d31_19 rfl <| Runs.aloadN d31_20 rfl <| Runs.getI d31_21 w28 fS_1 <| ?_
  refine dvz_el hf fun hz4 hf => ?_
  refine Runs.idiv d31_24 hz4 <| Runs.istoreN (P' := [vr a, vi (gI ob 6), vi ((gI ob 6) / (gI q2 1))]) d31_25 (by decide) rfl <| Runs.aloadN d31_26 rfl <| Runs.iloadN d31_27 rfl <| ?_
  refine bind_el hf fun q5 hg6 hf => ?_
  refine Runs.callP (N := B32) (W := 0) (as := [.int ((gI ob 6) / (gI q2 1))]) (S' := []) d31_28 w176 w177 w178 rfl cw32 ar32 rk31_32_0 (by decide) rfl rfl (X_ageOthers_pay hg6) <| ans0 <| Runs.aloadN d31_31 rfl <| Runs.getA d31_32 fA_4 w19 (by decide) <| Runs.iloadN d31_35 rfl <| Runs.iconst d31_36 ci_1 <| ?_
  refine chk_el hf fun hi7 hf => ?_
  refine Runs.bastoreA (y := (1 : Int32)) d31_37 fA_4 (by decide) hi7 rfl <| Runs.aloadN d31_38 rfl <| Runs.getA d31_39 fA_5 w21 (by decide) <| Runs.iloadN d31_42 rfl <| Runs.iconst d31_43 ci_0 <| ?_
  refine chk_el hf fun hi8 hf => ?_
  refine Runs.iastoreA d31_44 fA_5 (by decide) hi8 <| Runs.aloadN d31_45 rfl <| ?_
  refine bind_el hf fun r9 hg10 hf => ?_
  refine Runs.callP (N := B33) (W := 0) (as := []) (S' := []) d31_46 w180 w181 w182 rfl cw33 ar33 rk31_33_0 (by decide) rfl rfl (X_bothActive_pay hg10) <| ans1 <| ?_
  refine ite_el hf (fun hc11 hf => ?_) (fun hc11 hf => ?_)
  · refine Runs.ifY (pc' := 56) d31_49 (teq hc11).1 (by decide) <| ?_
    obtain rfl := Option.some.inj hf
    exact Runs.retV d31_56 rfl ⟨by decide, by decide⟩ ⟨rfl, rfl⟩
  · refine Runs.ifN d31_49 (feq hc11).1 <| ?_
    refine Runs.aloadN d31_52 rfl <| ?_
    refine bind_el hf fun q12 hg13 hf => ?_
    obtain rfl := Option.some.inj hf
    exact Runs.callP (N := B34) (W := 0) (as := []) (S' := []) d31_53 w184 w185 w186 rfl cw34 ar34 rk31_34_0 (by decide) rfl rfl (X_clearAged_pay hg13) <| ans0 <| Runs.retV d31_56 rfl ⟨by decide, by decide⟩ ⟨rfl, rfl⟩
theorem X_acknowledge_pay {C : Ctx} {top : Nat} {a : Nat} {H : List (Nat × Nat × Rec)} {res : Rec} {NF : Nat} {ob : Rec} (hf : X_acknowledge NF ob = some res) : Pays C B31 [.ref a] (top, (a, 6, ob) :: H) (Ans none (top, (a, 6, res) :: H)) :=
  Pays.of pnK (Nat.le_of_ble_eq_true rfl) (P := [vr a, vn, vn]) 2 rfl (X_acknowledge_p ob hf)
def X_step_b53 (NF : Nat) (ob : Rec) : Option (Int32 × Rec) :=
  if (1 : Int32) < (gI ob 8) then
    (X_acknowledge NF ob).bind fun q5 =>
    some ((3 : Int32), q5)
  else
    chk (64 : Int32) (((gI ob 8) * (32 : Int32)) + (gI ob 6)) <|
    if (gI ob 8) = (0 : Int32) then
      some ((1 : Int32), (sI (sA ob 0 (((gI ob 8) * (32 : Int32)) + (gI ob 6)) (gI ob 7)) 8 ((gI ob 8) + (1 : Int32))))
    else
      some ((2 : Int32), (sI (sA ob 0 (((gI ob 8) * (32 : Int32)) + (gI ob 6)) (gI ob 7)) 8 ((gI ob 8) + (1 : Int32))))
set_option maxRecDepth 65536 in
set_option maxHeartbeats 4000000 in
theorem X_step_b53_p {C : Ctx} {top : Nat} {a : Nat} {H : List (Nat × Nat × Rec)} {res : Int32 × Rec} {NF : Nat} (ob : Rec) (hf : X_step_b53 NF ob = some res) : Runs C B20 0 0 53 [vr a, vn] [] (top, (a, 6, ob) :: H) (Ans (some (.int res.1)) (top, (a, 6, res.2) :: H)) := by
  delta X_step_b53 at hf
  refine Runs.aloadN d20_53 rfl <| Runs.getI d20_54 w42 fS_8 <| Runs.iconst d20_57 ci_1 <| ?_
  refine ite_el hf (fun hc4 hf => ?_) (fun hc4 hf => ?_)
  · refine Runs.icY (pc' := 104) d20_58 (tlt hc4).2.2.1 (by decide) <| ?_
    refine Runs.aloadN d20_104 rfl <| ?_
    refine bind_el hf fun q5 hg6 hf => ?_
    obtain rfl := Option.some.inj hf
    exact Runs.callP (N := B31) (W := 0) (as := []) (S' := []) d20_105 w172 w173 w174 rfl cw31 ar31 rk20_31_0 (by decide) rfl rfl (X_acknowledge_pay hg6) <| ans0 <| Runs.iconst d20_108 ci_3 <| Runs.retI d20_109 rfl ⟨by decide, by decide⟩ ⟨rfl, rfl⟩
  · refine Runs.icN d20_58 (flt hc4).2.2.1 <| ?_
    refine Runs.aloadN d20_61 rfl <| Runs.getI d20_62 w42 fS_8 <| Runs.istoreN (P' := [vr a, vi (gI ob 8)]) d20_65 (by decide) rfl <| Runs.aloadN d20_66 rfl <| Runs.getA d20_67 fA_0 w10 (by decide) <| Runs.iloadN d20_70 rfl <| Runs.bipush d20_71 cb_32 <| Runs.imul d20_73 <| Runs.aloadN d20_74 rfl <| Runs.getI d20_75 w38 fS_6 <| Runs.iadd d20_78 <| Runs.aloadN d20_79 rfl <| ?_
    refine Runs.getI d20_80 w40 fS_7 <| ?_
    refine chk_el hf fun hi7 hf => ?_
    refine Runs.iastoreA d20_83 fA_0 (by decide) hi7 <| Runs.aloadN d20_84 rfl <| Runs.dup d20_85 rfl <| Runs.getI d20_86 w42 fS_8 <| Runs.iconst d20_89 ci_1 <| Runs.iadd d20_90 <| Runs.putI d20_91 w42 fS_8 (Or.inl w43) <| Runs.iloadN d20_94 rfl <| ?_
    refine ite_el hf (fun hc8 hf => ?_) (fun hc8 hf => ?_)
    · refine Runs.ifN d20_95 (teq hc8).2 <| ?_
      obtain rfl := Option.some.inj hf
      exact Runs.iconst d20_98 ci_1 <| Runs.goto (pc' := 103) d20_99 (by decide) <| Runs.retI d20_103 rfl ⟨by decide, by decide⟩ ⟨rfl, rfl⟩
    · refine Runs.ifY (pc' := 102) d20_95 (feq hc8).2 (by decide) <| ?_
      obtain rfl := Option.some.inj hf
      exact Runs.iconst d20_102 ci_2 <| Runs.retI d20_103 rfl ⟨by decide, by decide⟩ ⟨rfl, rfl⟩
def X_step_w19 (NF : Nat) (k19 : Rec → Option (Int32 × Rec)) (ob : Rec) : Option (Int32 × Rec) :=
  if (1 : Int32) < (gI ob 8) then
    X_step_b53 NF ob
  else
    chk (2 : Int32) (gI ob 8) <|
    if (gA ob 2 (gI ob 8)) = (2 : Int32) then
      k19 (sI ob 8 ((gI ob 8) + (1 : Int32)))
    else
      X_step_b53 NF ob
def X_step_l19 (NF : Nat) : Nat → Rec → Option (Int32 × Rec)
  | 0, _ => none
  | n + 1, ob => X_step_w19 NF (X_step_l19 NF n) ob
set_option maxRecDepth 65536 in
set_option maxHeartbeats 4000000 in
theorem X_step_w19_p {C : Ctx} {top : Nat} {a : Nat} {H : List (Nat × Nat × Rec)} {res : Int32 × Rec} {NF : Nat} (k19 : Rec → Option (Int32 × Rec)) (hk19 : ∀ (ob : Rec), k19 ob = some res → Runs C B20 0 0 19 [vr a, vn] [] (top, (a, 6, ob) :: H) (Ans (some (.int res.1)) (top, (a, 6, res.2) :: H))) (ob : Rec) (hf : X_step_w19 NF k19 ob = some res) : Runs C B20 0 0 19 [vr a, vn] [] (top, (a, 6, ob) :: H) (Ans (some (.int res.1)) (top, (a, 6, res.2) :: H)) := by
  delta X_step_w19 at hf
  refine Runs.aloadN d20_19 rfl <| Runs.getI d20_20 w42 fS_8 <| Runs.iconst d20_23 ci_1 <| ?_
  refine ite_el hf (fun hc1 hf => ?_) (fun hc1 hf => ?_)
  · exact Runs.icY (pc' := 53) d20_24 (tlt hc1).2.2.1 (by decide) <| X_step_b53_p ob hf
  · refine Runs.icN d20_24 (flt hc1).2.2.1 <| ?_
    refine Runs.aloadN d20_27 rfl <| Runs.getA d20_28 fA_2 w14 (by decide) <| Runs.aloadN d20_31 rfl <| Runs.getI d20_32 w42 fS_8 <| ?_
    refine chk_el hf fun hi2 hf => ?_
    refine Runs.ialoadA d20_35 fA_2 (by decide) hi2 <| Runs.iconst d20_36 ci_2 <| ?_
    refine ite_el hf (fun hc3 hf => ?_) (fun hc3 hf => ?_)
    · refine Runs.icN d20_37 (teq hc3).2 <| ?_
      exact Runs.aloadN d20_40 rfl <| Runs.dup d20_41 rfl <| Runs.getI d20_42 w42 fS_8 <| Runs.iconst d20_45 ci_1 <| Runs.iadd d20_46 <| Runs.putI d20_47 w42 fS_8 (Or.inl w43) <| Runs.goto (pc' := 19) d20_50 (by decide) <| hk19 (sI ob 8 ((gI ob 8) + (1 : Int32))) hf
    · exact Runs.icY (pc' := 53) d20_37 (feq hc3).2 (by decide) <| X_step_b53_p ob hf
theorem X_step_l19_p {C : Ctx} {top : Nat} {a : Nat} {H : List (Nat × Nat × Rec)} {res : Int32 × Rec} {NF : Nat} (n : Nat) (ob : Rec) (hf : X_step_l19 NF n ob = some res) : Runs C B20 0 0 19 [vr a, vn] [] (top, (a, 6, ob) :: H) (Ans (some (.int res.1)) (top, (a, 6, res.2) :: H)) := by
  induction n generalizing ob with
  | zero => cases (show (none : Option (Int32 × Rec)) = some res from hf)
  | succ n ih => exact X_step_w19_p (X_step_l19 NF n) (fun ob h => ih _ h) ob hf
def X_step (NF : Nat) (ob : Rec) : Option (Int32 × Rec) :=
  if (gI ob 4) = (0 : Int32) then
    if (gI ob 5) = (0 : Int32) then
      some ((-5 : Int32), ob)
    else
      X_step_l19 NF NF ob
  else
    some ((-1 : Int32), ob)
set_option maxRecDepth 65536 in
set_option maxHeartbeats 4000000 in
theorem X_step_p {C : Ctx} {top : Nat} {a : Nat} {H : List (Nat × Nat × Rec)} {res : Int32 × Rec} {NF : Nat} (ob : Rec) (hf : X_step NF ob = some res) : Runs C B20 0 0 0 [vr a, vn] [] (top, (a, 6, ob) :: H) (Ans (some (.int res.1)) (top, (a, 6, res.2) :: H)) := by
  delta X_step at hf
  refine Runs.aloadN d20_0 rfl <| Runs.getI d20_1 w34 fS_4 <| ?_
  refine ite_el hf (fun hc9 hf => ?_) (fun hc9 hf => ?_)
  · refine Runs.ifY (pc' := 9) d20_4 (teq hc9).1 (by decide) <| ?_
    refine Runs.aloadN d20_9 rfl <| Runs.getI d20_10 w36 fS_5 <| ?_
    refine ite_el hf (fun hc10 hf => ?_) (fun hc10 hf => ?_)
    · refine Runs.ifN d20_13 (teq hc10).2 <| ?_
      obtain rfl := Option.some.inj hf
      exact Runs.bipush d20_16 cb_m5 <| Runs.retI d20_18 rfl ⟨by decide, by decide⟩ ⟨rfl, rfl⟩
    · exact Runs.ifY (pc' := 19) d20_13 (feq hc10).2 (by decide) <| X_step_l19_p NF ob hf
  · refine Runs.ifN d20_4 (feq hc9).1 <| ?_
    obtain rfl := Option.some.inj hf
    exact Runs.iconst d20_7 ci_m1 <| Runs.retI d20_8 rfl ⟨by decide, by decide⟩ ⟨rfl, rfl⟩
theorem X_step_pay {C : Ctx} {top : Nat} {a : Nat} {H : List (Nat × Nat × Rec)} {res : Int32 × Rec} {NF : Nat} {ob : Rec} (hf : X_step NF ob = some res) : Pays C B20 [.ref a] (top, (a, 6, ob) :: H) (Ans (some (.int res.1)) (top, (a, 6, res.2) :: H)) :=
  Pays.of pnK (Nat.le_of_ble_eq_true rfl) (P := [vr a, vn]) 1 rfl (X_step_p ob hf)
def L_put (l0 : Int64) (i2 : Int32) (i3 : Int32) : Option (Int64) :=
  some ((l0 &&& (((31 : Int64) <<< (((5 : Int32) * i2) &&& 0x3f).toInt64) ^^^ (-1 : Int64))) ||| (i3.toInt64 <<< (((5 : Int32) * i2) &&& 0x3f).toInt64))
set_option maxRecDepth 65536 in
set_option maxHeartbeats 4000000 in
theorem L_put_p {C : Ctx} {G : AH} {res : Int64} (l0 : Int64) (i2 : Int32) (i3 : Int32) (hf : L_put l0 i2 i3 = some res) : Runs C B23 0 0 0 [vl l0, v2, vi i2, vi i3] [] G (Ans (some (.long res)) G) := by
  delta L_put at hf
  refine Runs.lloadN d23_0 rfl <| Runs.ldc2 d23_1 w103 <| Runs.iconst d23_4 ci_5 <| Runs.iloadN d23_5 rfl <| Runs.imul d23_6 <| Runs.lshl d23_7 <| Runs.ldc2 d23_8 w141 <| Runs.lxor d23_11 <| Runs.land d23_12 <| Runs.iloadN d23_13 rfl <| Runs.i2l d23_14 <| Runs.iconst d23_15 ci_5 <| ?_
  obtain rfl := Option.some.inj hf
  exact Runs.iloadN d23_16 rfl <| Runs.imul d23_17 <| Runs.lshl d23_18 <| Runs.lor d23_19 <| Runs.retJ d23_20 rfl ⟨by decide, by decide⟩ ⟨rfl, rfl⟩
theorem L_put_pay {C : Ctx} {G : AH} {res : Int64} {l0 : Int64} {i2 : Int32} {i3 : Int32} (hf : L_put l0 i2 i3 = some res) : Pays C B23 [.long l0, .int i2, .int i3] G (Ans (some (.long res)) G) :=
  Pays.of pnL (Nat.le_of_ble_eq_true rfl) (P := [vl l0, v2, vi i2, vi i3]) 0 rfl (L_put_p l0 i2 i3 hf)
def X_legState (ob : Rec) (i1 : Int32) : Option (Int32) :=
  (X_validLeg ob i1).bind fun r1 =>
  if r1 = (0 : Int32) then
    some (-1 : Int32)
  else
    chk (2 : Int32) i1 <|
    some (gA ob 2 i1)
set_option maxRecDepth 65536 in
set_option maxHeartbeats 4000000 in
theorem X_legState_p {C : Ctx} {top : Nat} {a : Nat} {H : List (Nat × Nat × Rec)} {ob : Rec} {res : Int32} (i1 : Int32) (hf : X_legState ob i1 = some res) : Runs C B6 0 0 0 [vr a, vi i1] [] (top, (a, 6, ob) :: H) (Ans (some (.int res)) (top, (a, 6, ob) :: H)) := by
  delta X_legState at hf
  refine Runs.aloadN d6_0 rfl <| Runs.iloadN d6_1 rfl <| ?_
  refine bind_el hf fun r1 hg2 hf => ?_
  refine Runs.callP (N := B7) (W := 0) (as := [.int i1]) (S' := []) d6_2 w62 w63 w64 rfl cw7 ar7 rk6_7_0 (by decide) rfl rfl (X_validLeg_pay hg2) <| ans1 <| ?_
  refine ite_el hf (fun hc3 hf => ?_) (fun hc3 hf => ?_)
  · refine Runs.ifN d6_5 (teq hc3).2 <| ?_
    obtain rfl := Option.some.inj hf
    exact Runs.iconst d6_8 ci_m1 <| Runs.retI d6_9 rfl ⟨by decide, by decide⟩ ⟨rfl, rfl⟩
  · refine Runs.ifY (pc' := 10) d6_5 (feq hc3).2 (by decide) <| ?_
    refine Runs.aloadN d6_10 rfl <| Runs.getA d6_11 fA_2 w14 (by decide) <| Runs.iloadN d6_14 rfl <| ?_
    refine chk_el hf fun hi4 hf => ?_
    obtain rfl := Option.some.inj hf
    exact Runs.ialoadA d6_15 fA_2 (by decide) hi4 <| Runs.retI d6_16 rfl ⟨by decide, by decide⟩ ⟨rfl, rfl⟩
theorem X_legState_pay {C : Ctx} {top : Nat} {a : Nat} {H : List (Nat × Nat × Rec)} {ob : Rec} {res : Int32} {i1 : Int32} (hf : X_legState ob i1 = some res) : Pays C B6 [.ref a, .int i1] (top, (a, 6, ob) :: H) (Ans (some (.int res)) (top, (a, 6, ob) :: H)) :=
  Pays.of pnK (Nat.le_of_ble_eq_true rfl) (P := [vr a, vi i1]) 0 rfl (X_legState_p i1 hf)
def X_isDown (ob : Rec) : Option (Int32) :=
  some ((gI ob 4) &&& 1)
set_option maxRecDepth 65536 in
set_option maxHeartbeats 4000000 in
theorem X_isDown_p {C : Ctx} {top : Nat} {a : Nat} {H : List (Nat × Nat × Rec)} {ob : Rec} {res : Int32} (hf : X_isDown ob = some res) : Runs C B8 0 0 0 [vr a] [] (top, (a, 6, ob) :: H) (Ans (some (.int res)) (top, (a, 6, ob) :: H)) := by
  delta X_isDown at hf
  obtain rfl := Option.some.inj hf
  exact Runs.aloadN d8_0 rfl <| Runs.getI d8_1 w34 fS_4 <| Runs.retZ (y := ((gI ob 4) &&& 1)) d8_4 rfl ⟨by decide, by decide⟩ rfl ⟨rfl, rfl⟩
theorem X_isDown_pay {C : Ctx} {top : Nat} {a : Nat} {H : List (Nat × Nat × Rec)} {ob : Rec} {res : Int32} (hf : X_isDown ob = some res) : Pays C B8 [.ref a] (top, (a, 6, ob) :: H) (Ans (some (.int res)) (top, (a, 6, ob) :: H)) :=
  Pays.of pnK (Nat.le_of_ble_eq_true rfl) (P := [vr a]) 0 rfl (X_isDown_p hf)
def X_pendingBlock (ob : Rec) : Option (Int32) :=
  if (gI ob 5) = (0 : Int32) then
    some (-1 : Int32)
  else
    some (gI ob 6)
set_option maxRecDepth 65536 in
set_option maxHeartbeats 4000000 in
theorem X_pendingBlock_p {C : Ctx} {top : Nat} {a : Nat} {H : List (Nat × Nat × Rec)} {ob : Rec} {res : Int32} (hf : X_pendingBlock ob = some res) : Runs C B9 0 0 0 [vr a] [] (top, (a, 6, ob) :: H) (Ans (some (.int res)) (top, (a, 6, ob) :: H)) := by
  delta X_pendingBlock at hf
  refine Runs.aloadN d9_0 rfl <| Runs.getI d9_1 w36 fS_5 <| ?_
  refine ite_el hf (fun hc1 hf => ?_) (fun hc1 hf => ?_)
  · refine Runs.ifY (pc' := 14) d9_4 (teq hc1).1 (by decide) <| ?_
    obtain rfl := Option.some.inj hf
    exact Runs.iconst d9_14 ci_m1 <| Runs.retI d9_15 rfl ⟨by decide, by decide⟩ ⟨rfl, rfl⟩
  · refine Runs.ifN d9_4 (feq hc1).1 <| ?_
    obtain rfl := Option.some.inj hf
    exact Runs.aloadN d9_7 rfl <| Runs.getI d9_8 w38 fS_6 <| Runs.goto (pc' := 15) d9_11 (by decide) <| Runs.retI d9_15 rfl ⟨by decide, by decide⟩ ⟨rfl, rfl⟩
theorem X_pendingBlock_pay {C : Ctx} {top : Nat} {a : Nat} {H : List (Nat × Nat × Rec)} {ob : Rec} {res : Int32} (hf : X_pendingBlock ob = some res) : Pays C B9 [.ref a] (top, (a, 6, ob) :: H) (Ans (some (.int res)) (top, (a, 6, ob) :: H)) :=
  Pays.of pnK (Nat.le_of_ble_eq_true rfl) (P := [vr a]) 0 rfl (X_pendingBlock_p hf)
def X_pendingCursor (ob : Rec) : Option (Int32) :=
  if (gI ob 5) = (0 : Int32) then
    some (-1 : Int32)
  else
    some (gI ob 8)
set_option maxRecDepth 65536 in
set_option maxHeartbeats 4000000 in
theorem X_pendingCursor_p {C : Ctx} {top : Nat} {a : Nat} {H : List (Nat × Nat × Rec)} {ob : Rec} {res : Int32} (hf : X_pendingCursor ob = some res) : Runs C B10 0 0 0 [vr a] [] (top, (a, 6, ob) :: H) (Ans (some (.int res)) (top, (a, 6, ob) :: H)) := by
  delta X_pendingCursor at hf
  refine Runs.aloadN d10_0 rfl <| Runs.getI d10_1 w36 fS_5 <| ?_
  refine ite_el hf (fun hc1 hf => ?_) (fun hc1 hf => ?_)
  · refine Runs.ifY (pc' := 14) d10_4 (teq hc1).1 (by decide) <| ?_
    obtain rfl := Option.some.inj hf
    exact Runs.iconst d10_14 ci_m1 <| Runs.retI d10_15 rfl ⟨by decide, by decide⟩ ⟨rfl, rfl⟩
  · refine Runs.ifN d10_4 (feq hc1).1 <| ?_
    obtain rfl := Option.some.inj hf
    exact Runs.aloadN d10_7 rfl <| Runs.getI d10_8 w42 fS_8 <| Runs.goto (pc' := 15) d10_11 (by decide) <| Runs.retI d10_15 rfl ⟨by decide, by decide⟩ ⟨rfl, rfl⟩
theorem X_pendingCursor_pay {C : Ctx} {top : Nat} {a : Nat} {H : List (Nat × Nat × Rec)} {ob : Rec} {res : Int32} (hf : X_pendingCursor ob = some res) : Pays C B10 [.ref a] (top, (a, 6, ob) :: H) (Ans (some (.int res)) (top, (a, 6, ob) :: H)) :=
  Pays.of pnK (Nat.le_of_ble_eq_true rfl) (P := [vr a]) 0 rfl (X_pendingCursor_p hf)
def X_read (ob : Rec) (i1 : Int32) : Option (Int32) :=
  if (gI ob 4) = (0 : Int32) then
    (X_validBlock ob i1).bind fun r2 =>
    if r2 = (0 : Int32) then
      some (-1 : Int32)
    else
      chk (2 : Int32) (0 : Int32) <|
      if (gA ob 2 (0 : Int32)) = (0 : Int32) then
        chk (64 : Int32) (((0 : Int32) * (32 : Int32)) + i1) <|
        some (gA ob 0 (((0 : Int32) * (32 : Int32)) + i1))
      else
        chk (64 : Int32) (((1 : Int32) * (32 : Int32)) + i1) <|
        some (gA ob 0 (((1 : Int32) * (32 : Int32)) + i1))
  else
    some (-1 : Int32)
set_option maxRecDepth 65536 in
set_option maxHeartbeats 4000000 in
theorem X_read_p {C : Ctx} {top : Nat} {a : Nat} {H : List (Nat × Nat × Rec)} {ob : Rec} {res : Int32} (i1 : Int32) (hf : X_read ob i1 = some res) : Runs C B11 0 0 0 [vr a, vi i1, vn] [] (top, (a, 6, ob) :: H) (Ans (some (.int res)) (top, (a, 6, ob) :: H)) := by
  delta X_read at hf
  refine Runs.aloadN d11_0 rfl <| Runs.getI d11_1 w34 fS_4 <| ?_
  refine ite_el hf (fun hc1 hf => ?_) (fun hc1 hf => ?_)
  · refine Runs.ifN d11_4 (teq hc1).2 <| ?_
    refine Runs.aloadN d11_7 rfl <| Runs.iloadN d11_8 rfl <| ?_
    refine bind_el hf fun r2 hg3 hf => ?_
    refine Runs.callP (N := B14) (W := 0) (as := [.int i1]) (S' := []) d11_9 w96 w97 w98 rfl cw14 ar14 rk11_14_0 (by decide) rfl rfl (X_validBlock_pay hg3) <| ans1 <| ?_
    refine ite_el hf (fun hc4 hf => ?_) (fun hc4 hf => ?_)
    · refine Runs.ifN d11_12 (teq hc4).2 <| ?_
      obtain rfl := Option.some.inj hf
      exact Runs.iconst d11_15 ci_m1 <| Runs.retI d11_16 rfl ⟨by decide, by decide⟩ ⟨rfl, rfl⟩
    · refine Runs.ifY (pc' := 17) d11_12 (feq hc4).2 (by decide) <| ?_
      refine Runs.aloadN d11_17 rfl <| Runs.getA d11_18 fA_2 w14 (by decide) <| Runs.iconst d11_21 ci_0 <| ?_
      refine chk_el hf fun hi5 hf => ?_
      refine Runs.ialoadA d11_22 fA_2 (by decide) hi5 <| ?_
      refine ite_el hf (fun hc6 hf => ?_) (fun hc6 hf => ?_)
      · refine Runs.ifN d11_23 (teq hc6).2 <| ?_
        refine Runs.iconst d11_26 ci_0 <| Runs.goto (pc' := 31) d11_27 (by decide) <| Runs.istoreN (P' := [vr a, vi i1, vi (0 : Int32)]) d11_31 (by decide) rfl <| Runs.aloadN d11_32 rfl <| Runs.getA d11_33 fA_0 w10 (by decide) <| Runs.iloadN d11_36 rfl <| Runs.bipush d11_37 cb_32 <| Runs.imul d11_39 <| Runs.iloadN d11_40 rfl <| Runs.iadd d11_41 <| ?_
        refine chk_el hf fun hi7 hf => ?_
        obtain rfl := Option.some.inj hf
        exact Runs.ialoadA d11_42 fA_0 (by decide) hi7 <| Runs.retI d11_43 rfl ⟨by decide, by decide⟩ ⟨rfl, rfl⟩
      · refine Runs.ifY (pc' := 30) d11_23 (feq hc6).2 (by decide) <| ?_
        refine Runs.iconst d11_30 ci_1 <| Runs.istoreN (P' := [vr a, vi i1, vi (1 : Int32)]) d11_31 (by decide) rfl <| Runs.aloadN d11_32 rfl <| Runs.getA d11_33 fA_0 w10 (by decide) <| Runs.iloadN d11_36 rfl <| Runs.bipush d11_37 cb_32 <| Runs.imul d11_39 <| Runs.iloadN d11_40 rfl <| Runs.iadd d11_41 <| ?_
        refine chk_el hf fun hi8 hf => ?_
        obtain rfl := Option.some.inj hf
        exact Runs.ialoadA d11_42 fA_0 (by decide) hi8 <| Runs.retI d11_43 rfl ⟨by decide, by decide⟩ ⟨rfl, rfl⟩
  · refine Runs.ifY (pc' := 15) d11_4 (feq hc1).2 (by decide) <| ?_
    obtain rfl := Option.some.inj hf
    exact Runs.iconst d11_15 ci_m1 <| Runs.retI d11_16 rfl ⟨by decide, by decide⟩ ⟨rfl, rfl⟩
theorem X_read_pay {C : Ctx} {top : Nat} {a : Nat} {H : List (Nat × Nat × Rec)} {ob : Rec} {res : Int32} {i1 : Int32} (hf : X_read ob i1 = some res) : Pays C B11 [.ref a, .int i1] (top, (a, 6, ob) :: H) (Ans (some (.int res)) (top, (a, 6, ob) :: H)) :=
  Pays.of pnK (Nat.le_of_ble_eq_true rfl) (P := [vr a, vi i1, vn]) 1 rfl (X_read_p i1 hf)
def X_peek (ob : Rec) (i1 : Int32) (i2 : Int32) : Option (Int32) :=
  (X_validLeg ob i1).bind fun r1 =>
  if r1 = (0 : Int32) then
    some (-1 : Int32)
  else
    (X_validBlock ob i2).bind fun r4 =>
    if r4 = (0 : Int32) then
      some (-1 : Int32)
    else
      chk (64 : Int32) ((i1 * (32 : Int32)) + i2) <|
      some (gA ob 0 ((i1 * (32 : Int32)) + i2))
set_option maxRecDepth 65536 in
set_option maxHeartbeats 4000000 in
theorem X_peek_p {C : Ctx} {top : Nat} {a : Nat} {H : List (Nat × Nat × Rec)} {ob : Rec} {res : Int32} (i1 : Int32) (i2 : Int32) (hf : X_peek ob i1 i2 = some res) : Runs C B12 0 0 0 [vr a, vi i1, vi i2] [] (top, (a, 6, ob) :: H) (Ans (some (.int res)) (top, (a, 6, ob) :: H)) := by
  delta X_peek at hf
  refine Runs.aloadN d12_0 rfl <| Runs.iloadN d12_1 rfl <| ?_
  refine bind_el hf fun r1 hg2 hf => ?_
  refine Runs.callP (N := B7) (W := 0) (as := [.int i1]) (S' := []) d12_2 w62 w63 w64 rfl cw7 ar7 rk12_7_0 (by decide) rfl rfl (X_validLeg_pay hg2) <| ans1 <| ?_
  refine ite_el hf (fun hc3 hf => ?_) (fun hc3 hf => ?_)
  · refine Runs.ifY (pc' := 16) d12_5 (teq hc3).1 (by decide) <| ?_
    obtain rfl := Option.some.inj hf
    exact Runs.iconst d12_16 ci_m1 <| Runs.retI d12_17 rfl ⟨by decide, by decide⟩ ⟨rfl, rfl⟩
  · refine Runs.ifN d12_5 (feq hc3).1 <| ?_
    refine Runs.aloadN d12_8 rfl <| Runs.iloadN d12_9 rfl <| ?_
    refine bind_el hf fun r4 hg5 hf => ?_
    refine Runs.callP (N := B14) (W := 0) (as := [.int i2]) (S' := []) d12_10 w96 w97 w98 rfl cw14 ar14 rk12_14_0 (by decide) rfl rfl (X_validBlock_pay hg5) <| ans1 <| ?_
    refine ite_el hf (fun hc6 hf => ?_) (fun hc6 hf => ?_)
    · refine Runs.ifN d12_13 (teq hc6).2 <| ?_
      obtain rfl := Option.some.inj hf
      exact Runs.iconst d12_16 ci_m1 <| Runs.retI d12_17 rfl ⟨by decide, by decide⟩ ⟨rfl, rfl⟩
    · refine Runs.ifY (pc' := 18) d12_13 (feq hc6).2 (by decide) <| ?_
      refine Runs.aloadN d12_18 rfl <| Runs.getA d12_19 fA_0 w10 (by decide) <| Runs.iloadN d12_22 rfl <| Runs.bipush d12_23 cb_32 <| Runs.imul d12_25 <| Runs.iloadN d12_26 rfl <| Runs.iadd d12_27 <| ?_
      refine chk_el hf fun hi7 hf => ?_
      obtain rfl := Option.some.inj hf
      exact Runs.ialoadA d12_28 fA_0 (by decide) hi7 <| Runs.retI d12_29 rfl ⟨by decide, by decide⟩ ⟨rfl, rfl⟩
theorem X_peek_pay {C : Ctx} {top : Nat} {a : Nat} {H : List (Nat × Nat × Rec)} {ob : Rec} {res : Int32} {i1 : Int32} {i2 : Int32} (hf : X_peek ob i1 i2 = some res) : Pays C B12 [.ref a, .int i1, .int i2] (top, (a, 6, ob) :: H) (Ans (some (.int res)) (top, (a, 6, ob) :: H)) :=
  Pays.of pnK (Nat.le_of_ble_eq_true rfl) (P := [vr a, vi i1, vi i2]) 0 rfl (X_peek_p i1 i2 hf)
def X_ackedValue (ob : Rec) (i1 : Int32) : Option (Int32) :=
  (X_validBlock ob i1).bind fun r1 =>
  if r1 = (0 : Int32) then
    some (-1 : Int32)
  else
    chk (32 : Int32) i1 <|
    some (gA ob 1 i1)
set_option maxRecDepth 65536 in
set_option maxHeartbeats 4000000 in
theorem X_ackedValue_p {C : Ctx} {top : Nat} {a : Nat} {H : List (Nat × Nat × Rec)} {ob : Rec} {res : Int32} (i1 : Int32) (hf : X_ackedValue ob i1 = some res) : Runs C B13 0 0 0 [vr a, vi i1] [] (top, (a, 6, ob) :: H) (Ans (some (.int res)) (top, (a, 6, ob) :: H)) := by
  delta X_ackedValue at hf
  refine Runs.aloadN d13_0 rfl <| Runs.iloadN d13_1 rfl <| ?_
  refine bind_el hf fun r1 hg2 hf => ?_
  refine Runs.callP (N := B14) (W := 0) (as := [.int i1]) (S' := []) d13_2 w96 w97 w98 rfl cw14 ar14 rk13_14_0 (by decide) rfl rfl (X_validBlock_pay hg2) <| ans1 <| ?_
  refine ite_el hf (fun hc3 hf => ?_) (fun hc3 hf => ?_)
  · refine Runs.ifN d13_5 (teq hc3).2 <| ?_
    obtain rfl := Option.some.inj hf
    exact Runs.iconst d13_8 ci_m1 <| Runs.retI d13_9 rfl ⟨by decide, by decide⟩ ⟨rfl, rfl⟩
  · refine Runs.ifY (pc' := 10) d13_5 (feq hc3).2 (by decide) <| ?_
    refine Runs.aloadN d13_10 rfl <| Runs.getA d13_11 fA_1 w12 (by decide) <| Runs.iloadN d13_14 rfl <| ?_
    refine chk_el hf fun hi4 hf => ?_
    obtain rfl := Option.some.inj hf
    exact Runs.ialoadA d13_15 fA_1 (by decide) hi4 <| Runs.retI d13_16 rfl ⟨by decide, by decide⟩ ⟨rfl, rfl⟩
theorem X_ackedValue_pay {C : Ctx} {top : Nat} {a : Nat} {H : List (Nat × Nat × Rec)} {ob : Rec} {res : Int32} {i1 : Int32} (hf : X_ackedValue ob i1 = some res) : Pays C B13 [.ref a, .int i1] (top, (a, 6, ob) :: H) (Ans (some (.int res)) (top, (a, 6, ob) :: H)) :=
  Pays.of pnK (Nat.le_of_ble_eq_true rfl) (P := [vr a, vi i1]) 0 rfl (X_ackedValue_p i1 hf)
def L_get (l0 : Int64) (i2 : Int32) : Option (Int32) :=
  some (((l0.toUInt64 >>> (((5 : Int32) * i2) &&& 0x3f).toInt64.toUInt64).toInt64) &&& (31 : Int64)).toInt32
set_option maxRecDepth 65536 in
set_option maxHeartbeats 4000000 in
theorem L_get_p {C : Ctx} {G : AH} {res : Int32} (l0 : Int64) (i2 : Int32) (hf : L_get l0 i2 = some res) : Runs C B15 0 0 0 [vl l0, v2, vi i2] [] G (Ans (some (.int res)) G) := by
  delta L_get at hf
  obtain rfl := Option.some.inj hf
  exact Runs.lloadN d15_0 rfl <| Runs.iconst d15_1 ci_5 <| Runs.iloadN d15_2 rfl <| Runs.imul d15_3 <| Runs.lushr d15_4 <| Runs.ldc2 d15_5 w103 <| Runs.land d15_8 <| Runs.l2i d15_9 <| Runs.retI d15_10 rfl ⟨by decide, by decide⟩ ⟨rfl, rfl⟩
theorem L_get_pay {C : Ctx} {G : AH} {res : Int32} {l0 : Int64} {i2 : Int32} (hf : L_get l0 i2 = some res) : Pays C B15 [.long l0, .int i2] G (Ans (some (.int res)) G) :=
  Pays.of pnL (Nat.le_of_ble_eq_true rfl) (P := [vl l0, v2, vi i2]) 0 rfl (L_get_p l0 i2 hf)
def L_agrees_b198 (NF : Nat) (ob : Rec) (k112 : Int64 → Int64 → Int64 → Int32 → Int32 → Int32 → Option (Int32)) (l1 : Int64) (l3 : Int64) (l5 : Int64) (i7 : Int32) (i12 : Int32) (i13 : Int32) (t0 : Int32) : Option (Int32) :=
  (X_read ob i13).bind fun r37 =>
  if r37 = t0 then
    k112 l1 l3 l5 i7 i12 (i13 + (1 : Int32))
  else
    some (0 : Int32)
set_option maxRecDepth 65536 in
set_option maxHeartbeats 4000000 in
theorem L_agrees_b198_p {C : Ctx} {top : Nat} {a : Nat} {H : List (Nat × Nat × Rec)} {ob : Rec} {res : Int32} {NF : Nat} (k112 : Int64 → Int64 → Int64 → Int32 → Int32 → Int32 → Option (Int32)) (hk112 : ∀ (l1 : Int64) (l3 : Int64) (l5 : Int64) (i7 : Int32) (i12 : Int32) (i13 : Int32), k112 l1 l3 l5 i7 i12 i13 = some res → Runs C B5 0 0 112 [vr a, vl l1, v2, vl l3, v2, vl l5, v2, vi i7, vn, vn, vn, vn, vi i12, vi i13, vn] [] (top, (a, 6, ob) :: H) (Ans (some (.int res)) (top, (a, 6, ob) :: H))) (l1 : Int64) (l3 : Int64) (l5 : Int64) (i7 : Int32) (i12 : Int32) (i13 : Int32) (t0 : Int32) (hf : L_agrees_b198 NF ob k112 l1 l3 l5 i7 i12 i13 t0 = some res) : Runs C B5 0 0 198 [vr a, vl l1, v2, vl l3, v2, vl l5, v2, vi i7, vn, vn, vn, vn, vi i12, vi i13, vn] [.int t0] (top, (a, 6, ob) :: H) (Ans (some (.int res)) (top, (a, 6, ob) :: H)) := by
  delta L_agrees_b198 at hf
  refine Runs.istore (P' := [vr a, vl l1, v2, vl l3, v2, vl l5, v2, vi i7, vn, vn, vn, vn, vi i12, vi i13, vi t0]) d5_198 (by decide) rfl <| Runs.aloadN d5_200 rfl <| Runs.iload d5_201 rfl <| ?_
  refine bind_el hf fun r37 hg38 hf => ?_
  refine Runs.callV (N := B11) (W := 0) (as := [.int i13]) (S' := []) d5_203 w81 w82 w83 w84 cw11 ar11 rk5_11_0 (by decide) rfl rfl (X_read_pay hg38) <| ans1 <| Runs.iload d5_206 rfl <| ?_
  refine ite_el hf (fun hc39 hf => ?_) (fun hc39 hf => ?_)
  · refine Runs.icY (pc' := 213) d5_208 (teq hc39).1 (by decide) <| ?_
    exact Runs.iinc (P' := [vr a, vl l1, v2, vl l3, v2, vl l5, v2, vi i7, vn, vn, vn, vn, vi i12, vi (i13 + (1 : Int32)), vi t0]) d5_213 ci_1 rfl (by decide) rfl <| Runs.goto (pc' := 112) d5_216 (by decide) <| Runs.forget [true, true, true, true, true, true, true, true, false, false, false, false, true, true, false] rfl <| hk112 l1 l3 l5 i7 i12 (i13 + (1 : Int32)) hf
  · refine Runs.icN d5_208 (feq hc39).1 <| ?_
    obtain rfl := Option.some.inj hf
    exact Runs.iconst d5_211 ci_0 <| Runs.retZ (y := (0 : Int32)) d5_212 rfl ⟨by decide, by decide⟩ rfl ⟨rfl, rfl⟩
def L_agrees_w112 (NF : Nat) (ob : Rec) (k112 : Int64 → Int64 → Int64 → Int32 → Int32 → Int32 → Option (Int32)) (l1 : Int64) (l3 : Int64) (l5 : Int64) (i7 : Int32) (i12 : Int32) (i13 : Int32) : Option (Int32) :=
  if i13 < (12 : Int32) then
    (X_peek ob (0 : Int32) i13).bind fun r16 =>
    (L_get l1 i13).bind fun r18 =>
    if r16 = r18 then
      (X_peek ob (1 : Int32) i13).bind fun r21 =>
      (L_get l3 i13).bind fun r23 =>
      if r21 = r23 then
        (X_ackedValue ob i13).bind fun r26 =>
        (L_get l5 i13).bind fun r28 =>
        if r26 = r28 then
          if i12 = (0 : Int32) then
            if i7 = (0 : Int32) then
              (L_get l1 i13).bind fun r33 =>
              L_agrees_b198 NF ob k112 l1 l3 l5 i7 i12 i13 r33
            else
              (L_get l3 i13).bind fun r35 =>
              L_agrees_b198 NF ob k112 l1 l3 l5 i7 i12 i13 r35
          else
            L_agrees_b198 NF ob k112 l1 l3 l5 i7 i12 i13 (-1 : Int32)
        else
          some (0 : Int32)
      else
        some (0 : Int32)
    else
      some (0 : Int32)
  else
    some (1 : Int32)
def L_agrees_l112 (NF : Nat) (ob : Rec) : Nat → Int64 → Int64 → Int64 → Int32 → Int32 → Int32 → Option (Int32)
  | 0, _, _, _, _, _, _ => none
  | n + 1, l1, l3, l5, i7, i12, i13 => L_agrees_w112 NF ob (L_agrees_l112 NF ob n) l1 l3 l5 i7 i12 i13
set_option maxRecDepth 65536 in
set_option maxHeartbeats 4000000 in
theorem L_agrees_w112_p {C : Ctx} {top : Nat} {a : Nat} {H : List (Nat × Nat × Rec)} {ob : Rec} {res : Int32} {NF : Nat} (k112 : Int64 → Int64 → Int64 → Int32 → Int32 → Int32 → Option (Int32)) (hk112 : ∀ (l1 : Int64) (l3 : Int64) (l5 : Int64) (i7 : Int32) (i12 : Int32) (i13 : Int32), k112 l1 l3 l5 i7 i12 i13 = some res → Runs C B5 0 0 112 [vr a, vl l1, v2, vl l3, v2, vl l5, v2, vi i7, vn, vn, vn, vn, vi i12, vi i13, vn] [] (top, (a, 6, ob) :: H) (Ans (some (.int res)) (top, (a, 6, ob) :: H))) (l1 : Int64) (l3 : Int64) (l5 : Int64) (i7 : Int32) (i12 : Int32) (i13 : Int32) (hf : L_agrees_w112 NF ob k112 l1 l3 l5 i7 i12 i13 = some res) : Runs C B5 0 0 112 [vr a, vl l1, v2, vl l3, v2, vl l5, v2, vi i7, vn, vn, vn, vn, vi i12, vi i13, vn] [] (top, (a, 6, ob) :: H) (Ans (some (.int res)) (top, (a, 6, ob) :: H)) := by
  delta L_agrees_w112 at hf
  refine Runs.iload d5_112 rfl <| Runs.bipush d5_114 cb_12 <| ?_
  refine ite_el hf (fun hc15 hf => ?_) (fun hc15 hf => ?_)
  · refine Runs.icN d5_116 (tlt hc15).2.1 <| ?_
    refine Runs.aloadN d5_119 rfl <| Runs.iconst d5_120 ci_0 <| Runs.iload d5_121 rfl <| ?_
    refine bind_el hf fun r16 hg17 hf => ?_
    refine Runs.callV (N := B12) (W := 0) (as := [.int (0 : Int32), .int i13]) (S' := []) d5_123 w86 w87 w88 w89 cw12 ar12 rk5_12_0 (by decide) rfl rfl (X_peek_pay hg17) <| ans1 <| Runs.lloadN d5_126 rfl <| Runs.iload d5_127 rfl <| ?_
    refine bind_el hf fun r18 hg19 hf => ?_
    refine Runs.callS (N := B15) (W := 1) (as := [.long l1, .int i13]) (S' := [.int r16]) d5_129 w100 w101 cw15 ar15 rk5_15_1 (by decide) rfl rfl (L_get_pay hg19) <| ans1 <| ?_
    refine ite_el hf (fun hc20 hf => ?_) (fun hc20 hf => ?_)
    · refine Runs.icN d5_132 (teq hc20).2 <| ?_
      refine Runs.aloadN d5_135 rfl <| Runs.iconst d5_136 ci_1 <| Runs.iload d5_137 rfl <| ?_
      refine bind_el hf fun r21 hg22 hf => ?_
      refine Runs.callV (N := B12) (W := 0) (as := [.int (1 : Int32), .int i13]) (S' := []) d5_139 w86 w87 w88 w89 cw12 ar12 rk5_12_0 (by decide) rfl rfl (X_peek_pay hg22) <| ans1 <| Runs.lloadN d5_142 rfl <| Runs.iload d5_143 rfl <| ?_
      refine bind_el hf fun r23 hg24 hf => ?_
      refine Runs.callS (N := B15) (W := 1) (as := [.long l3, .int i13]) (S' := [.int r21]) d5_145 w100 w101 cw15 ar15 rk5_15_1 (by decide) rfl rfl (L_get_pay hg24) <| ans1 <| ?_
      refine ite_el hf (fun hc25 hf => ?_) (fun hc25 hf => ?_)
      · refine Runs.icN d5_148 (teq hc25).2 <| ?_
        refine Runs.aloadN d5_151 rfl <| Runs.iload d5_152 rfl <| ?_
        refine bind_el hf fun r26 hg27 hf => ?_
        refine Runs.callV (N := B13) (W := 0) (as := [.int i13]) (S' := []) d5_154 w91 w92 w93 w94 cw13 ar13 rk5_13_0 (by decide) rfl rfl (X_ackedValue_pay hg27) <| ans1 <| Runs.lload d5_157 rfl <| Runs.iload d5_159 rfl <| ?_
        refine bind_el hf fun r28 hg29 hf => ?_
        refine Runs.callS (N := B15) (W := 1) (as := [.long l5, .int i13]) (S' := [.int r26]) d5_161 w100 w101 cw15 ar15 rk5_15_1 (by decide) rfl rfl (L_get_pay hg29) <| ans1 <| ?_
        refine ite_el hf (fun hc30 hf => ?_) (fun hc30 hf => ?_)
        · refine Runs.icY (pc' := 169) d5_164 (teq hc30).1 (by decide) <| ?_
          refine Runs.iload d5_169 rfl <| ?_
          refine ite_el hf (fun hc31 hf => ?_) (fun hc31 hf => ?_)
          · refine Runs.ifY (pc' := 178) d5_171 (teq hc31).1 (by decide) <| ?_
            refine Runs.iload d5_178 rfl <| ?_
            refine ite_el hf (fun hc32 hf => ?_) (fun hc32 hf => ?_)
            · refine Runs.ifN d5_180 (teq hc32).2 <| ?_
              refine Runs.lloadN d5_183 rfl <| Runs.iload d5_184 rfl <| ?_
              refine bind_el hf fun r33 hg34 hf => ?_
              exact Runs.callS (N := B15) (W := 0) (as := [.long l1, .int i13]) (S' := []) d5_186 w100 w101 cw15 ar15 rk5_15_0 (by decide) rfl rfl (L_get_pay hg34) <| ans1 <| Runs.goto (pc' := 198) d5_189 (by decide) <| L_agrees_b198_p k112 hk112 l1 l3 l5 i7 i12 i13 r33 hf
            · refine Runs.ifY (pc' := 192) d5_180 (feq hc32).2 (by decide) <| ?_
              refine Runs.lloadN d5_192 rfl <| Runs.iload d5_193 rfl <| ?_
              refine bind_el hf fun r35 hg36 hf => ?_
              exact Runs.callS (N := B15) (W := 0) (as := [.long l3, .int i13]) (S' := []) d5_195 w100 w101 cw15 ar15 rk5_15_0 (by decide) rfl rfl (L_get_pay hg36) <| ans1 <| L_agrees_b198_p k112 hk112 l1 l3 l5 i7 i12 i13 r35 hf
          · refine Runs.ifN d5_171 (feq hc31).1 <| ?_
            exact Runs.iconst d5_174 ci_m1 <| Runs.goto (pc' := 198) d5_175 (by decide) <| L_agrees_b198_p k112 hk112 l1 l3 l5 i7 i12 i13 (-1 : Int32) hf
        · refine Runs.icN d5_164 (feq hc30).1 <| ?_
          obtain rfl := Option.some.inj hf
          exact Runs.iconst d5_167 ci_0 <| Runs.retZ (y := (0 : Int32)) d5_168 rfl ⟨by decide, by decide⟩ rfl ⟨rfl, rfl⟩
      · refine Runs.icY (pc' := 167) d5_148 (feq hc25).2 (by decide) <| ?_
        obtain rfl := Option.some.inj hf
        exact Runs.iconst d5_167 ci_0 <| Runs.retZ (y := (0 : Int32)) d5_168 rfl ⟨by decide, by decide⟩ rfl ⟨rfl, rfl⟩
    · refine Runs.icY (pc' := 167) d5_132 (feq hc20).2 (by decide) <| ?_
      obtain rfl := Option.some.inj hf
      exact Runs.iconst d5_167 ci_0 <| Runs.retZ (y := (0 : Int32)) d5_168 rfl ⟨by decide, by decide⟩ rfl ⟨rfl, rfl⟩
  · refine Runs.icY (pc' := 219) d5_116 (flt hc15).2.1 (by decide) <| ?_
    obtain rfl := Option.some.inj hf
    exact Runs.iconst d5_219 ci_1 <| Runs.retZ (y := (1 : Int32)) d5_220 rfl ⟨by decide, by decide⟩ rfl ⟨rfl, rfl⟩
theorem L_agrees_l112_p {C : Ctx} {top : Nat} {a : Nat} {H : List (Nat × Nat × Rec)} {ob : Rec} {res : Int32} {NF : Nat} (n : Nat) (l1 : Int64) (l3 : Int64) (l5 : Int64) (i7 : Int32) (i12 : Int32) (i13 : Int32) (hf : L_agrees_l112 NF ob n l1 l3 l5 i7 i12 i13 = some res) : Runs C B5 0 0 112 [vr a, vl l1, v2, vl l3, v2, vl l5, v2, vi i7, vn, vn, vn, vn, vi i12, vi i13, vn] [] (top, (a, 6, ob) :: H) (Ans (some (.int res)) (top, (a, 6, ob) :: H)) := by
  induction n generalizing l1 l3 l5 i7 i12 i13 with
  | zero => cases (show (none : Option (Int32)) = some res from hf)
  | succ n ih => exact L_agrees_w112_p (L_agrees_l112 NF ob n) (fun l1 l3 l5 i7 i12 i13 h => ih _ _ _ _ _ _ h) l1 l3 l5 i7 i12 i13 hf
def L_agrees_b73 (NF : Nat) (ob : Rec) (l1 : Int64) (l3 : Int64) (l5 : Int64) (i7 : Int32) (i12 : Int32) (t0 : Int32) (t1 : Int32) : Option (Int32) :=
  if t0 = t1 then
    (X_read ob (12 : Int32)).bind fun r6 =>
    if r6 = (-1 : Int32) then
      (X_peek ob (2 : Int32) (0 : Int32)).bind fun r9 =>
      if r9 = (-1 : Int32) then
        (X_ackedValue ob (-1 : Int32)).bind fun r12 =>
        if r12 = (-1 : Int32) then
          L_agrees_l112 NF ob NF l1 l3 l5 i7 i12 (0 : Int32)
        else
          some (0 : Int32)
      else
        some (0 : Int32)
    else
      some (0 : Int32)
  else
    some (0 : Int32)
set_option maxRecDepth 65536 in
set_option maxHeartbeats 4000000 in
theorem L_agrees_b73_p {C : Ctx} {top : Nat} {a : Nat} {H : List (Nat × Nat × Rec)} {ob : Rec} {res : Int32} {NF : Nat} (l1 : Int64) (l3 : Int64) (l5 : Int64) (i7 : Int32) (i12 : Int32) (t0 : Int32) (t1 : Int32) (hf : L_agrees_b73 NF ob l1 l3 l5 i7 i12 t0 t1 = some res) : Runs C B5 0 0 73 [vr a, vl l1, v2, vl l3, v2, vl l5, v2, vi i7, vn, vn, vn, vn, vi i12, vn, vn] [.int t1, .int t0] (top, (a, 6, ob) :: H) (Ans (some (.int res)) (top, (a, 6, ob) :: H)) := by
  delta L_agrees_b73 at hf
  refine ite_el hf (fun hc5 hf => ?_) (fun hc5 hf => ?_)
  · refine Runs.icY (pc' := 78) d5_73 (teq hc5).1 (by decide) <| ?_
    refine Runs.aloadN d5_78 rfl <| Runs.bipush d5_79 cb_12 <| ?_
    refine bind_el hf fun r6 hg7 hf => ?_
    refine Runs.callV (N := B11) (W := 0) (as := [.int (12 : Int32)]) (S' := []) d5_81 w81 w82 w83 w84 cw11 ar11 rk5_11_0 (by decide) rfl rfl (X_read_pay hg7) <| ans1 <| Runs.iconst d5_84 ci_m1 <| ?_
    refine ite_el hf (fun hc8 hf => ?_) (fun hc8 hf => ?_)
    · refine Runs.icN d5_85 (teq hc8).2 <| ?_
      refine Runs.aloadN d5_88 rfl <| Runs.iconst d5_89 ci_2 <| Runs.iconst d5_90 ci_0 <| ?_
      refine bind_el hf fun r9 hg10 hf => ?_
      refine Runs.callV (N := B12) (W := 0) (as := [.int (2 : Int32), .int (0 : Int32)]) (S' := []) d5_91 w86 w87 w88 w89 cw12 ar12 rk5_12_0 (by decide) rfl rfl (X_peek_pay hg10) <| ans1 <| Runs.iconst d5_94 ci_m1 <| ?_
      refine ite_el hf (fun hc11 hf => ?_) (fun hc11 hf => ?_)
      · refine Runs.icN d5_95 (teq hc11).2 <| ?_
        refine Runs.aloadN d5_98 rfl <| Runs.iconst d5_99 ci_m1 <| ?_
        refine bind_el hf fun r12 hg13 hf => ?_
        refine Runs.callV (N := B13) (W := 0) (as := [.int (-1 : Int32)]) (S' := []) d5_100 w91 w92 w93 w94 cw13 ar13 rk5_13_0 (by decide) rfl rfl (X_ackedValue_pay hg13) <| ans1 <| Runs.iconst d5_103 ci_m1 <| ?_
        refine ite_el hf (fun hc14 hf => ?_) (fun hc14 hf => ?_)
        · refine Runs.icY (pc' := 109) d5_104 (teq hc14).1 (by decide) <| ?_
          exact Runs.iconst d5_109 ci_0 <| Runs.istore (P' := [vr a, vl l1, v2, vl l3, v2, vl l5, v2, vi i7, vn, vn, vn, vn, vi i12, vi (0 : Int32), vn]) d5_110 (by decide) rfl <| L_agrees_l112_p NF l1 l3 l5 i7 i12 (0 : Int32) hf
        · refine Runs.icN d5_104 (feq hc14).1 <| ?_
          obtain rfl := Option.some.inj hf
          exact Runs.iconst d5_107 ci_0 <| Runs.retZ (y := (0 : Int32)) d5_108 rfl ⟨by decide, by decide⟩ rfl ⟨rfl, rfl⟩
      · refine Runs.icY (pc' := 107) d5_95 (feq hc11).2 (by decide) <| ?_
        obtain rfl := Option.some.inj hf
        exact Runs.iconst d5_107 ci_0 <| Runs.retZ (y := (0 : Int32)) d5_108 rfl ⟨by decide, by decide⟩ rfl ⟨rfl, rfl⟩
    · refine Runs.icY (pc' := 107) d5_85 (feq hc8).2 (by decide) <| ?_
      obtain rfl := Option.some.inj hf
      exact Runs.iconst d5_107 ci_0 <| Runs.retZ (y := (0 : Int32)) d5_108 rfl ⟨by decide, by decide⟩ rfl ⟨rfl, rfl⟩
  · refine Runs.icN d5_73 (feq hc5).1 <| ?_
    obtain rfl := Option.some.inj hf
    exact Runs.iconst d5_76 ci_0 <| Runs.retZ (y := (0 : Int32)) d5_77 rfl ⟨by decide, by decide⟩ rfl ⟨rfl, rfl⟩
def L_agrees_b55 (NF : Nat) (ob : Rec) (l1 : Int64) (l3 : Int64) (l5 : Int64) (i7 : Int32) (i9 : Int32) (i11 : Int32) (i12 : Int32) (t0 : Int32) (t1 : Int32) : Option (Int32) :=
  if t0 = t1 then
    (X_pendingCursor ob).bind fun r2 =>
    if i9 = (0 : Int32) then
      L_agrees_b73 NF ob l1 l3 l5 i7 i12 r2 (-1 : Int32)
    else
      L_agrees_b73 NF ob l1 l3 l5 i7 i12 r2 i11
  else
    some (0 : Int32)
set_option maxRecDepth 65536 in
set_option maxHeartbeats 4000000 in
theorem L_agrees_b55_p {C : Ctx} {top : Nat} {a : Nat} {H : List (Nat × Nat × Rec)} {ob : Rec} {res : Int32} {NF : Nat} (l1 : Int64) (l3 : Int64) (l5 : Int64) (i7 : Int32) (i9 : Int32) (i11 : Int32) (i12 : Int32) (t0 : Int32) (t1 : Int32) (hf : L_agrees_b55 NF ob l1 l3 l5 i7 i9 i11 i12 t0 t1 = some res) : Runs C B5 0 0 55 [vr a, vl l1, v2, vl l3, v2, vl l5, v2, vi i7, vn, vi i9, vn, vi i11, vi i12, vn, vn] [.int t1, .int t0] (top, (a, 6, ob) :: H) (Ans (some (.int res)) (top, (a, 6, ob) :: H)) := by
  delta L_agrees_b55 at hf
  refine ite_el hf (fun hc1 hf => ?_) (fun hc1 hf => ?_)
  · refine Runs.icN d5_55 (teq hc1).2 <| ?_
    refine Runs.aloadN d5_58 rfl <| ?_
    refine bind_el hf fun r2 hg3 hf => ?_
    refine Runs.callV (N := B10) (W := 0) (as := []) (S' := []) d5_59 w76 w77 w78 w79 cw10 ar10 rk5_10_0 (by decide) rfl rfl (X_pendingCursor_pay hg3) <| ans1 <| Runs.iload d5_62 rfl <| ?_
    refine ite_el hf (fun hc4 hf => ?_) (fun hc4 hf => ?_)
    · refine Runs.ifY (pc' := 72) d5_64 (teq hc4).1 (by decide) <| ?_
      exact Runs.iconst d5_72 ci_m1 <| Runs.forget [true, true, true, true, true, true, true, true, false, false, false, false, true, false, false] rfl <| L_agrees_b73_p l1 l3 l5 i7 i12 r2 (-1 : Int32) hf
    · refine Runs.ifN d5_64 (feq hc4).1 <| ?_
      exact Runs.iload d5_67 rfl <| Runs.goto (pc' := 73) d5_69 (by decide) <| Runs.forget [true, true, true, true, true, true, true, true, false, false, false, false, true, false, false] rfl <| L_agrees_b73_p l1 l3 l5 i7 i12 r2 i11 hf
  · refine Runs.icY (pc' := 76) d5_55 (feq hc1).2 (by decide) <| ?_
    obtain rfl := Option.some.inj hf
    exact Runs.iconst d5_76 ci_0 <| Runs.retZ (y := (0 : Int32)) d5_77 rfl ⟨by decide, by decide⟩ rfl ⟨rfl, rfl⟩
def L_agrees (NF : Nat) (ob : Rec) (l1 : Int64) (l3 : Int64) (l5 : Int64) (i7 : Int32) (i8 : Int32) (i9 : Int32) (i10 : Int32) (i11 : Int32) (i12 : Int32) : Option (Int32) :=
  (X_legState ob (0 : Int32)).bind fun r40 =>
  if r40 = i7 then
    (X_legState ob (1 : Int32)).bind fun r43 =>
    if r43 = i8 then
      (X_legState ob (2 : Int32)).bind fun r46 =>
      if r46 = (-1 : Int32) then
        (X_isDown ob).bind fun r49 =>
        if r49 = i12 then
          (X_pendingBlock ob).bind fun r52 =>
          if i9 = (0 : Int32) then
            L_agrees_b55 NF ob l1 l3 l5 i7 i9 i11 i12 r52 (-1 : Int32)
          else
            L_agrees_b55 NF ob l1 l3 l5 i7 i9 i11 i12 r52 i10
        else
          some (0 : Int32)
      else
        some (0 : Int32)
    else
      some (0 : Int32)
  else
    some (0 : Int32)
set_option maxRecDepth 65536 in
set_option maxHeartbeats 4000000 in
theorem L_agrees_p {C : Ctx} {top : Nat} {a : Nat} {H : List (Nat × Nat × Rec)} {ob : Rec} {res : Int32} {NF : Nat} (l1 : Int64) (l3 : Int64) (l5 : Int64) (i7 : Int32) (i8 : Int32) (i9 : Int32) (i10 : Int32) (i11 : Int32) (i12 : Int32) (hf : L_agrees NF ob l1 l3 l5 i7 i8 i9 i10 i11 i12 = some res) : Runs C B5 0 0 0 [vr a, vl l1, v2, vl l3, v2, vl l5, v2, vi i7, vi i8, vi i9, vi i10, vi i11, vi i12, vn, vn] [] (top, (a, 6, ob) :: H) (Ans (some (.int res)) (top, (a, 6, ob) :: H)) := by
  delta L_agrees at hf
  refine Runs.aloadN d5_0 rfl <| Runs.iconst d5_1 ci_0 <| ?_
  refine bind_el hf fun r40 hg41 hf => ?_
  refine Runs.callV (N := B6) (W := 0) (as := [.int (0 : Int32)]) (S' := []) d5_2 w57 w58 w59 w60 cw6 ar6 rk5_6_0 (by decide) rfl rfl (X_legState_pay hg41) <| ans1 <| Runs.iload d5_5 rfl <| ?_
  refine ite_el hf (fun hc42 hf => ?_) (fun hc42 hf => ?_)
  · refine Runs.icN d5_7 (teq hc42).2 <| ?_
    refine Runs.aloadN d5_10 rfl <| Runs.iconst d5_11 ci_1 <| ?_
    refine bind_el hf fun r43 hg44 hf => ?_
    refine Runs.callV (N := B6) (W := 0) (as := [.int (1 : Int32)]) (S' := []) d5_12 w57 w58 w59 w60 cw6 ar6 rk5_6_0 (by decide) rfl rfl (X_legState_pay hg44) <| ans1 <| Runs.iload d5_15 rfl <| ?_
    refine ite_el hf (fun hc45 hf => ?_) (fun hc45 hf => ?_)
    · refine Runs.icN d5_17 (teq hc45).2 <| ?_
      refine Runs.aloadN d5_20 rfl <| Runs.iconst d5_21 ci_2 <| ?_
      refine bind_el hf fun r46 hg47 hf => ?_
      refine Runs.callV (N := B6) (W := 0) (as := [.int (2 : Int32)]) (S' := []) d5_22 w57 w58 w59 w60 cw6 ar6 rk5_6_0 (by decide) rfl rfl (X_legState_pay hg47) <| ans1 <| Runs.iconst d5_25 ci_m1 <| ?_
      refine ite_el hf (fun hc48 hf => ?_) (fun hc48 hf => ?_)
      · refine Runs.icN d5_26 (teq hc48).2 <| ?_
        refine Runs.aloadN d5_29 rfl <| ?_
        refine bind_el hf fun r49 hg50 hf => ?_
        refine Runs.callV (N := B8) (W := 0) (as := []) (S' := []) d5_30 w66 w67 w68 w69 cw8 ar8 rk5_8_0 (by decide) rfl rfl (X_isDown_pay hg50) <| ans1 <| Runs.iload d5_33 rfl <| ?_
        refine ite_el hf (fun hc51 hf => ?_) (fun hc51 hf => ?_)
        · refine Runs.icY (pc' := 40) d5_35 (teq hc51).1 (by decide) <| ?_
          refine Runs.aloadN d5_40 rfl <| ?_
          refine bind_el hf fun r52 hg53 hf => ?_
          refine Runs.callV (N := B9) (W := 0) (as := []) (S' := []) d5_41 w71 w72 w73 w74 cw9 ar9 rk5_9_0 (by decide) rfl rfl (X_pendingBlock_pay hg53) <| ans1 <| Runs.iload d5_44 rfl <| ?_
          refine ite_el hf (fun hc54 hf => ?_) (fun hc54 hf => ?_)
          · refine Runs.ifY (pc' := 54) d5_46 (teq hc54).1 (by decide) <| ?_
            exact Runs.iconst d5_54 ci_m1 <| Runs.forget [true, true, true, true, true, true, true, true, false, true, false, true, true, false, false] rfl <| L_agrees_b55_p l1 l3 l5 i7 i9 i11 i12 r52 (-1 : Int32) hf
          · refine Runs.ifN d5_46 (feq hc54).1 <| ?_
            exact Runs.iload d5_49 rfl <| Runs.goto (pc' := 55) d5_51 (by decide) <| Runs.forget [true, true, true, true, true, true, true, true, false, true, false, true, true, false, false] rfl <| L_agrees_b55_p l1 l3 l5 i7 i9 i11 i12 r52 i10 hf
        · refine Runs.icN d5_35 (feq hc51).1 <| ?_
          obtain rfl := Option.some.inj hf
          exact Runs.iconst d5_38 ci_0 <| Runs.retZ (y := (0 : Int32)) d5_39 rfl ⟨by decide, by decide⟩ rfl ⟨rfl, rfl⟩
      · refine Runs.icY (pc' := 38) d5_26 (feq hc48).2 (by decide) <| ?_
        obtain rfl := Option.some.inj hf
        exact Runs.iconst d5_38 ci_0 <| Runs.retZ (y := (0 : Int32)) d5_39 rfl ⟨by decide, by decide⟩ rfl ⟨rfl, rfl⟩
    · refine Runs.icY (pc' := 38) d5_17 (feq hc45).2 (by decide) <| ?_
      obtain rfl := Option.some.inj hf
      exact Runs.iconst d5_38 ci_0 <| Runs.retZ (y := (0 : Int32)) d5_39 rfl ⟨by decide, by decide⟩ rfl ⟨rfl, rfl⟩
  · refine Runs.icY (pc' := 38) d5_7 (feq hc42).2 (by decide) <| ?_
    obtain rfl := Option.some.inj hf
    exact Runs.iconst d5_38 ci_0 <| Runs.retZ (y := (0 : Int32)) d5_39 rfl ⟨by decide, by decide⟩ rfl ⟨rfl, rfl⟩
theorem L_agrees_pay {C : Ctx} {top : Nat} {a : Nat} {H : List (Nat × Nat × Rec)} {ob : Rec} {res : Int32} {NF : Nat} {l1 : Int64} {l3 : Int64} {l5 : Int64} {i7 : Int32} {i8 : Int32} {i9 : Int32} {i10 : Int32} {i11 : Int32} {i12 : Int32} (hf : L_agrees NF ob l1 l3 l5 i7 i8 i9 i10 i11 i12 = some res) : Pays C B5 [.ref a, .long l1, .long l3, .long l5, .int i7, .int i8, .int i9, .int i10, .int i11, .int i12] (top, (a, 6, ob) :: H) (Ans (some (.int res)) (top, (a, 6, ob) :: H)) :=
  Pays.of pnL (Nat.le_of_ble_eq_true rfl) (P := [vr a, vl l1, v2, vl l3, v2, vl l5, v2, vi i7, vi i8, vi i9, vi i10, vi i11, vi i12, vn, vn]) 2 rfl (L_agrees_p l1 l3 l5 i7 i8 i9 i10 i11 i12 hf)
def L_law_b736 (NF : Nat) (z : Int32) (f : Int32 → Int32) (k68 : Rec → Int32 → Int64 → Int64 → Int64 → Int32 → Int32 → Int32 → Int32 → Int32 → Int32 → Int32 → Int32 → Option (Int32)) (ob : Rec) (i1 : Int32) (l3 : Int64) (l5 : Int64) (l7 : Int64) (i9 : Int32) (i10 : Int32) (i11 : Int32) (i12 : Int32) (i13 : Int32) (i14 : Int32) (i15 : Int32) (i16 : Int32) (i25 : Int32) (i26 : Int32) : Option (Int32) :=
  if i26 = i25 then
    (L_agrees NF ob l3 l5 l7 i9 i10 i14 i11 i13 i15).bind fun r92 =>
    if r92 = (0 : Int32) then
      some (0 : Int32)
    else
      k68 ob i1 l3 l5 l7 i9 i10 i11 i12 i13 i14 i15 (i16 + (3 : Int32))
  else
    some (0 : Int32)
set_option maxRecDepth 65536 in
set_option maxHeartbeats 4000000 in
theorem L_law_b736_p {C : Ctx} {sa : Nat} {z : Int32} {f : Int32 → Int32} (hs : ScrF C sa z f) {res : Int32} {NF : Nat} (k68 : Rec → Int32 → Int64 → Int64 → Int64 → Int32 → Int32 → Int32 → Int32 → Int32 → Int32 → Int32 → Int32 → Option (Int32)) (hk68 : ∀ (ob : Rec) (i1 : Int32) (l3 : Int64) (l5 : Int64) (l7 : Int64) (i9 : Int32) (i10 : Int32) (i11 : Int32) (i12 : Int32) (i13 : Int32) (i14 : Int32) (i15 : Int32) (i16 : Int32), k68 ob i1 l3 l5 l7 i9 i10 i11 i12 i13 i14 i15 i16 = some res → Runs C B0 7 209 68 [vr sa, vi i1, vr C.2.2.1, vl l3, v2, vl l5, v2, vl l7, v2, vi i9, vi i10, vi i11, vi i12, vi i13, vi i14, vi i15, vi i16, vn, vn, vn, vn, vn, vn, vn, vn, vn, vn] [] (C.2.2.1 + 1 + 6, (C.2.2.1, 6, ob) :: []) (fun v _ => v = (some (.int res)))) (ob : Rec) (i1 : Int32) (l3 : Int64) (l5 : Int64) (l7 : Int64) (i9 : Int32) (i10 : Int32) (i11 : Int32) (i12 : Int32) (i13 : Int32) (i14 : Int32) (i15 : Int32) (i16 : Int32) (i25 : Int32) (i26 : Int32) (hf : L_law_b736 NF z f k68 ob i1 l3 l5 l7 i9 i10 i11 i12 i13 i14 i15 i16 i25 i26 = some res) : Runs C B0 7 209 736 [vr sa, vi i1, vr C.2.2.1, vl l3, v2, vl l5, v2, vl l7, v2, vi i9, vi i10, vi i11, vi i12, vi i13, vi i14, vi i15, vi i16, vn, vn, vn, vn, vn, vn, vn, vn, vi i25, vi i26] [] (C.2.2.1 + 1 + 6, (C.2.2.1, 6, ob) :: []) (fun v _ => v = (some (.int res))) := by
  delta L_law_b736 at hf
  refine Runs.iload d0_736 rfl <| Runs.iload d0_738 rfl <| ?_
  refine ite_el hf (fun hc91 hf => ?_) (fun hc91 hf => ?_)
  · refine Runs.icY (pc' := 745) d0_740 (teq hc91).1 (by decide) <| ?_
    refine Runs.aloadN d0_745 rfl <| Runs.lloadN d0_746 rfl <| Runs.lload d0_747 rfl <| Runs.lload d0_749 rfl <| Runs.iload d0_751 rfl <| Runs.iload d0_753 rfl <| Runs.iload d0_755 rfl <| Runs.iload d0_757 rfl <| Runs.iload d0_759 rfl <| Runs.iload d0_761 rfl <| ?_
    refine bind_el hf fun r92 hg93 hf => ?_
    refine Runs.callS (N := B5) (W := 0) (as := [.ref C.2.2.1, .long l3, .long l5, .long l7, .int i9, .int i10, .int i14, .int i11, .int i13, .int i15]) (S' := []) d0_763 w53 w54 cw5 ar5 rk0_5_0 (by decide) rfl rfl (L_agrees_pay hg93) <| ans1 <| ?_
    refine ite_el hf (fun hc94 hf => ?_) (fun hc94 hf => ?_)
    · refine Runs.ifN d0_766 (teq hc94).2 <| ?_
      obtain rfl := Option.some.inj hf
      exact Runs.iconst d0_769 ci_0 <| Runs.retZ (y := (0 : Int32)) d0_770 rfl ⟨by decide, by decide⟩ rfl rfl
    · refine Runs.ifY (pc' := 771) d0_766 (feq hc94).2 (by decide) <| ?_
      exact Runs.iinc (P' := [vr sa, vi i1, vr C.2.2.1, vl l3, v2, vl l5, v2, vl l7, v2, vi i9, vi i10, vi i11, vi i12, vi i13, vi i14, vi i15, vi (i16 + (3 : Int32)), vn, vn, vn, vn, vn, vn, vn, vn, vi i25, vi i26]) d0_771 ci_3 rfl (by decide) rfl <| Runs.goto (pc' := 68) d0_774 (by decide) <| Runs.forget [true, true, true, true, true, true, true, true, true, true, true, true, true, true, true, true, true, false, false, false, false, false, false, false, false, false, false] rfl <| hk68 ob i1 l3 l5 l7 i9 i10 i11 i12 i13 i14 i15 (i16 + (3 : Int32)) hf
  · refine Runs.icN d0_740 (feq hc91).1 <| ?_
    obtain rfl := Option.some.inj hf
    exact Runs.iconst d0_743 ci_0 <| Runs.retZ (y := (0 : Int32)) d0_744 rfl ⟨by decide, by decide⟩ rfl rfl
def L_law_b216 (NF : Nat) (z : Int32) (f : Int32 → Int32) (k68 : Rec → Int32 → Int64 → Int64 → Int64 → Int32 → Int32 → Int32 → Int32 → Int32 → Int32 → Int32 → Int32 → Option (Int32)) (ob : Rec) (i1 : Int32) (l3 : Int64) (l5 : Int64) (l7 : Int64) (i9 : Int32) (i10 : Int32) (i11 : Int32) (i12 : Int32) (i13 : Int32) (i14 : Int32) (i15 : Int32) (i16 : Int32) (i20 : Int32) (i21 : Int32) (i26 : Int32) (t0 : Int32) : Option (Int32) :=
  if t0 = (0 : Int32) then
    L_law_b736 NF z f k68 ob i1 l3 l5 l7 i9 i10 i20 i21 (0 : Int32) (1 : Int32) i15 i16 t0 i26
  else
    L_law_b736 NF z f k68 ob i1 l3 l5 l7 i9 i10 i11 i12 i13 i14 i15 i16 t0 i26
set_option maxRecDepth 65536 in
set_option maxHeartbeats 4000000 in
theorem L_law_b216_p {C : Ctx} {sa : Nat} {z : Int32} {f : Int32 → Int32} (hs : ScrF C sa z f) {res : Int32} {NF : Nat} (k68 : Rec → Int32 → Int64 → Int64 → Int64 → Int32 → Int32 → Int32 → Int32 → Int32 → Int32 → Int32 → Int32 → Option (Int32)) (hk68 : ∀ (ob : Rec) (i1 : Int32) (l3 : Int64) (l5 : Int64) (l7 : Int64) (i9 : Int32) (i10 : Int32) (i11 : Int32) (i12 : Int32) (i13 : Int32) (i14 : Int32) (i15 : Int32) (i16 : Int32), k68 ob i1 l3 l5 l7 i9 i10 i11 i12 i13 i14 i15 i16 = some res → Runs C B0 7 209 68 [vr sa, vi i1, vr C.2.2.1, vl l3, v2, vl l5, v2, vl l7, v2, vi i9, vi i10, vi i11, vi i12, vi i13, vi i14, vi i15, vi i16, vn, vn, vn, vn, vn, vn, vn, vn, vn, vn] [] (C.2.2.1 + 1 + 6, (C.2.2.1, 6, ob) :: []) (fun v _ => v = (some (.int res)))) (ob : Rec) (i1 : Int32) (l3 : Int64) (l5 : Int64) (l7 : Int64) (i9 : Int32) (i10 : Int32) (i11 : Int32) (i12 : Int32) (i13 : Int32) (i14 : Int32) (i15 : Int32) (i16 : Int32) (i20 : Int32) (i21 : Int32) (i26 : Int32) (t0 : Int32) (hf : L_law_b216 NF z f k68 ob i1 l3 l5 l7 i9 i10 i11 i12 i13 i14 i15 i16 i20 i21 i26 t0 = some res) : Runs C B0 7 209 216 [vr sa, vi i1, vr C.2.2.1, vl l3, v2, vl l5, v2, vl l7, v2, vi i9, vi i10, vi i11, vi i12, vi i13, vi i14, vi i15, vi i16, vn, vn, vn, vi i20, vi i21, vn, vn, vn, vn, vi i26] [.int t0] (C.2.2.1 + 1 + 6, (C.2.2.1, 6, ob) :: []) (fun v _ => v = (some (.int res))) := by
  delta L_law_b216 at hf
  refine Runs.istore (P' := [vr sa, vi i1, vr C.2.2.1, vl l3, v2, vl l5, v2, vl l7, v2, vi i9, vi i10, vi i11, vi i12, vi i13, vi i14, vi i15, vi i16, vn, vn, vn, vi i20, vi i21, vn, vn, vn, vi t0, vi i26]) d0_216 (by decide) rfl <| Runs.iload d0_218 rfl <| ?_
  refine ite_el hf (fun hc53 hf => ?_) (fun hc53 hf => ?_)
  · refine Runs.ifN d0_220 (teq hc53).2 <| ?_
    exact Runs.iconst d0_223 ci_1 <| Runs.istore (P' := [vr sa, vi i1, vr C.2.2.1, vl l3, v2, vl l5, v2, vl l7, v2, vi i9, vi i10, vi i11, vi i12, vi i13, vi (1 : Int32), vi i15, vi i16, vn, vn, vn, vi i20, vi i21, vn, vn, vn, vi t0, vi i26]) d0_224 (by decide) rfl <| Runs.iload d0_226 rfl <| Runs.istore (P' := [vr sa, vi i1, vr C.2.2.1, vl l3, v2, vl l5, v2, vl l7, v2, vi i9, vi i10, vi i20, vi i12, vi i13, vi (1 : Int32), vi i15, vi i16, vn, vn, vn, vi i20, vi i21, vn, vn, vn, vi t0, vi i26]) d0_228 (by decide) rfl <| Runs.iload d0_230 rfl <| Runs.istore (P' := [vr sa, vi i1, vr C.2.2.1, vl l3, v2, vl l5, v2, vl l7, v2, vi i9, vi i10, vi i20, vi i21, vi i13, vi (1 : Int32), vi i15, vi i16, vn, vn, vn, vi i20, vi i21, vn, vn, vn, vi t0, vi i26]) d0_232 (by decide) rfl <| Runs.iconst d0_234 ci_0 <| Runs.istore (P' := [vr sa, vi i1, vr C.2.2.1, vl l3, v2, vl l5, v2, vl l7, v2, vi i9, vi i10, vi i20, vi i21, vi (0 : Int32), vi (1 : Int32), vi i15, vi i16, vn, vn, vn, vi i20, vi i21, vn, vn, vn, vi t0, vi i26]) d0_235 (by decide) rfl <| Runs.goto (pc' := 736) d0_237 (by decide) <| Runs.forget [true, true, true, true, true, true, true, true, true, true, true, true, true, true, true, true, true, false, false, false, false, false, false, false, false, true, true] rfl <| L_law_b736_p hs k68 hk68 ob i1 l3 l5 l7 i9 i10 i20 i21 (0 : Int32) (1 : Int32) i15 i16 t0 i26 hf
  · exact Runs.ifY (pc' := 736) d0_220 (feq hc53).2 (by decide) <| Runs.forget [true, true, true, true, true, true, true, true, true, true, true, true, true, true, true, true, true, false, false, false, false, false, false, false, false, true, true] rfl <| L_law_b736_p hs k68 hk68 ob i1 l3 l5 l7 i9 i10 i11 i12 i13 i14 i15 i16 t0 i26 hf
def L_law_b262 (NF : Nat) (z : Int32) (f : Int32 → Int32) (k68 : Rec → Int32 → Int64 → Int64 → Int64 → Int32 → Int32 → Int32 → Int32 → Int32 → Int32 → Int32 → Int32 → Option (Int32)) (ob : Rec) (i1 : Int32) (l3 : Int64) (l5 : Int64) (l7 : Int64) (i9 : Int32) (i10 : Int32) (i11 : Int32) (i12 : Int32) (i13 : Int32) (i14 : Int32) (i15 : Int32) (i16 : Int32) (i26 : Int32) (t0 : Int32) : Option (Int32) :=
  if i15 = (0 : Int32) then
    L_law_b736 NF z f k68 ob i1 l3 l5 l7 i9 i10 i11 i12 i13 (0 : Int32) (1 : Int32) i16 t0 i26
  else
    L_law_b736 NF z f k68 ob i1 l3 l5 l7 i9 i10 i11 i12 i13 i14 i15 i16 t0 i26
set_option maxRecDepth 65536 in
set_option maxHeartbeats 4000000 in
theorem L_law_b262_p {C : Ctx} {sa : Nat} {z : Int32} {f : Int32 → Int32} (hs : ScrF C sa z f) {res : Int32} {NF : Nat} (k68 : Rec → Int32 → Int64 → Int64 → Int64 → Int32 → Int32 → Int32 → Int32 → Int32 → Int32 → Int32 → Int32 → Option (Int32)) (hk68 : ∀ (ob : Rec) (i1 : Int32) (l3 : Int64) (l5 : Int64) (l7 : Int64) (i9 : Int32) (i10 : Int32) (i11 : Int32) (i12 : Int32) (i13 : Int32) (i14 : Int32) (i15 : Int32) (i16 : Int32), k68 ob i1 l3 l5 l7 i9 i10 i11 i12 i13 i14 i15 i16 = some res → Runs C B0 7 209 68 [vr sa, vi i1, vr C.2.2.1, vl l3, v2, vl l5, v2, vl l7, v2, vi i9, vi i10, vi i11, vi i12, vi i13, vi i14, vi i15, vi i16, vn, vn, vn, vn, vn, vn, vn, vn, vn, vn] [] (C.2.2.1 + 1 + 6, (C.2.2.1, 6, ob) :: []) (fun v _ => v = (some (.int res)))) (ob : Rec) (i1 : Int32) (l3 : Int64) (l5 : Int64) (l7 : Int64) (i9 : Int32) (i10 : Int32) (i11 : Int32) (i12 : Int32) (i13 : Int32) (i14 : Int32) (i15 : Int32) (i16 : Int32) (i26 : Int32) (t0 : Int32) (hf : L_law_b262 NF z f k68 ob i1 l3 l5 l7 i9 i10 i11 i12 i13 i14 i15 i16 i26 t0 = some res) : Runs C B0 7 209 262 [vr sa, vi i1, vr C.2.2.1, vl l3, v2, vl l5, v2, vl l7, v2, vi i9, vi i10, vi i11, vi i12, vi i13, vi i14, vi i15, vi i16, vn, vn, vn, vn, vn, vn, vn, vn, vn, vi i26] [.int t0] (C.2.2.1 + 1 + 6, (C.2.2.1, 6, ob) :: []) (fun v _ => v = (some (.int res))) := by
  delta L_law_b262 at hf
  refine Runs.istore (P' := [vr sa, vi i1, vr C.2.2.1, vl l3, v2, vl l5, v2, vl l7, v2, vi i9, vi i10, vi i11, vi i12, vi i13, vi i14, vi i15, vi i16, vn, vn, vn, vn, vn, vn, vn, vn, vi t0, vi i26]) d0_262 (by decide) rfl <| Runs.iload d0_264 rfl <| ?_
  refine ite_el hf (fun hc54 hf => ?_) (fun hc54 hf => ?_)
  · refine Runs.ifN d0_266 (teq hc54).2 <| ?_
    exact Runs.iconst d0_269 ci_0 <| Runs.istore (P' := [vr sa, vi i1, vr C.2.2.1, vl l3, v2, vl l5, v2, vl l7, v2, vi i9, vi i10, vi i11, vi i12, vi i13, vi (0 : Int32), vi i15, vi i16, vn, vn, vn, vn, vn, vn, vn, vn, vi t0, vi i26]) d0_270 (by decide) rfl <| Runs.iconst d0_272 ci_1 <| Runs.istore (P' := [vr sa, vi i1, vr C.2.2.1, vl l3, v2, vl l5, v2, vl l7, v2, vi i9, vi i10, vi i11, vi i12, vi i13, vi (0 : Int32), vi (1 : Int32), vi i16, vn, vn, vn, vn, vn, vn, vn, vn, vi t0, vi i26]) d0_273 (by decide) rfl <| Runs.goto (pc' := 736) d0_275 (by decide) <| L_law_b736_p hs k68 hk68 ob i1 l3 l5 l7 i9 i10 i11 i12 i13 (0 : Int32) (1 : Int32) i16 t0 i26 hf
  · exact Runs.ifY (pc' := 736) d0_266 (feq hc54).2 (by decide) <| L_law_b736_p hs k68 hk68 ob i1 l3 l5 l7 i9 i10 i11 i12 i13 i14 i15 i16 t0 i26 hf
def L_law_b301 (NF : Nat) (z : Int32) (f : Int32 → Int32) (k68 : Rec → Int32 → Int64 → Int64 → Int64 → Int32 → Int32 → Int32 → Int32 → Int32 → Int32 → Int32 → Int32 → Option (Int32)) (ob : Rec) (i1 : Int32) (l3 : Int64) (l5 : Int64) (l7 : Int64) (i9 : Int32) (i10 : Int32) (i11 : Int32) (i12 : Int32) (i13 : Int32) (i14 : Int32) (i15 : Int32) (i16 : Int32) (i26 : Int32) (t0 : Int32) : Option (Int32) :=
  if i15 = (0 : Int32) then
    L_law_b736 NF z f k68 ob i1 l3 l5 l7 i9 i10 i11 i12 i13 i14 (0 : Int32) i16 t0 i26
  else
    if i9 = (0 : Int32) then
      if i10 = (0 : Int32) then
        L_law_b736 NF z f k68 ob i1 l3 l5 l7 i9 (1 : Int32) i11 i12 i13 i14 (0 : Int32) i16 t0 i26
      else
        L_law_b736 NF z f k68 ob i1 l3 l5 l7 i9 i10 i11 i12 i13 i14 (0 : Int32) i16 t0 i26
    else
      L_law_b736 NF z f k68 ob i1 l3 l5 l7 i9 i10 i11 i12 i13 i14 (0 : Int32) i16 t0 i26
set_option maxRecDepth 65536 in
set_option maxHeartbeats 4000000 in
theorem L_law_b301_p {C : Ctx} {sa : Nat} {z : Int32} {f : Int32 → Int32} (hs : ScrF C sa z f) {res : Int32} {NF : Nat} (k68 : Rec → Int32 → Int64 → Int64 → Int64 → Int32 → Int32 → Int32 → Int32 → Int32 → Int32 → Int32 → Int32 → Option (Int32)) (hk68 : ∀ (ob : Rec) (i1 : Int32) (l3 : Int64) (l5 : Int64) (l7 : Int64) (i9 : Int32) (i10 : Int32) (i11 : Int32) (i12 : Int32) (i13 : Int32) (i14 : Int32) (i15 : Int32) (i16 : Int32), k68 ob i1 l3 l5 l7 i9 i10 i11 i12 i13 i14 i15 i16 = some res → Runs C B0 7 209 68 [vr sa, vi i1, vr C.2.2.1, vl l3, v2, vl l5, v2, vl l7, v2, vi i9, vi i10, vi i11, vi i12, vi i13, vi i14, vi i15, vi i16, vn, vn, vn, vn, vn, vn, vn, vn, vn, vn] [] (C.2.2.1 + 1 + 6, (C.2.2.1, 6, ob) :: []) (fun v _ => v = (some (.int res)))) (ob : Rec) (i1 : Int32) (l3 : Int64) (l5 : Int64) (l7 : Int64) (i9 : Int32) (i10 : Int32) (i11 : Int32) (i12 : Int32) (i13 : Int32) (i14 : Int32) (i15 : Int32) (i16 : Int32) (i26 : Int32) (t0 : Int32) (hf : L_law_b301 NF z f k68 ob i1 l3 l5 l7 i9 i10 i11 i12 i13 i14 i15 i16 i26 t0 = some res) : Runs C B0 7 209 301 [vr sa, vi i1, vr C.2.2.1, vl l3, v2, vl l5, v2, vl l7, v2, vi i9, vi i10, vi i11, vi i12, vi i13, vi i14, vi i15, vi i16, vn, vn, vn, vn, vn, vn, vn, vn, vn, vi i26] [.int t0] (C.2.2.1 + 1 + 6, (C.2.2.1, 6, ob) :: []) (fun v _ => v = (some (.int res))) := by
  delta L_law_b301 at hf
  refine Runs.istore (P' := [vr sa, vi i1, vr C.2.2.1, vl l3, v2, vl l5, v2, vl l7, v2, vi i9, vi i10, vi i11, vi i12, vi i13, vi i14, vi i15, vi i16, vn, vn, vn, vn, vn, vn, vn, vn, vi t0, vi i26]) d0_301 (by decide) rfl <| Runs.iload d0_303 rfl <| ?_
  refine ite_el hf (fun hc55 hf => ?_) (fun hc55 hf => ?_)
  · refine Runs.ifY (pc' := 321) d0_305 (teq hc55).1 (by decide) <| ?_
    exact Runs.iconst d0_321 ci_0 <| Runs.istore (P' := [vr sa, vi i1, vr C.2.2.1, vl l3, v2, vl l5, v2, vl l7, v2, vi i9, vi i10, vi i11, vi i12, vi i13, vi i14, vi (0 : Int32), vi i16, vn, vn, vn, vn, vn, vn, vn, vn, vi t0, vi i26]) d0_322 (by decide) rfl <| Runs.goto (pc' := 736) d0_324 (by decide) <| L_law_b736_p hs k68 hk68 ob i1 l3 l5 l7 i9 i10 i11 i12 i13 i14 (0 : Int32) i16 t0 i26 hf
  · refine Runs.ifN d0_305 (feq hc55).1 <| ?_
    refine Runs.iload d0_308 rfl <| ?_
    refine ite_el hf (fun hc56 hf => ?_) (fun hc56 hf => ?_)
    · refine Runs.ifN d0_310 (teq hc56).2 <| ?_
      refine Runs.iload d0_313 rfl <| ?_
      refine ite_el hf (fun hc57 hf => ?_) (fun hc57 hf => ?_)
      · refine Runs.ifN d0_315 (teq hc57).2 <| ?_
        exact Runs.iconst d0_318 ci_1 <| Runs.istore (P' := [vr sa, vi i1, vr C.2.2.1, vl l3, v2, vl l5, v2, vl l7, v2, vi i9, vi (1 : Int32), vi i11, vi i12, vi i13, vi i14, vi i15, vi i16, vn, vn, vn, vn, vn, vn, vn, vn, vi t0, vi i26]) d0_319 (by decide) rfl <| Runs.iconst d0_321 ci_0 <| Runs.istore (P' := [vr sa, vi i1, vr C.2.2.1, vl l3, v2, vl l5, v2, vl l7, v2, vi i9, vi (1 : Int32), vi i11, vi i12, vi i13, vi i14, vi (0 : Int32), vi i16, vn, vn, vn, vn, vn, vn, vn, vn, vi t0, vi i26]) d0_322 (by decide) rfl <| Runs.goto (pc' := 736) d0_324 (by decide) <| L_law_b736_p hs k68 hk68 ob i1 l3 l5 l7 i9 (1 : Int32) i11 i12 i13 i14 (0 : Int32) i16 t0 i26 hf
      · refine Runs.ifY (pc' := 321) d0_315 (feq hc57).2 (by decide) <| ?_
        exact Runs.iconst d0_321 ci_0 <| Runs.istore (P' := [vr sa, vi i1, vr C.2.2.1, vl l3, v2, vl l5, v2, vl l7, v2, vi i9, vi i10, vi i11, vi i12, vi i13, vi i14, vi (0 : Int32), vi i16, vn, vn, vn, vn, vn, vn, vn, vn, vi t0, vi i26]) d0_322 (by decide) rfl <| Runs.goto (pc' := 736) d0_324 (by decide) <| L_law_b736_p hs k68 hk68 ob i1 l3 l5 l7 i9 i10 i11 i12 i13 i14 (0 : Int32) i16 t0 i26 hf
    · refine Runs.ifY (pc' := 321) d0_310 (feq hc56).2 (by decide) <| ?_
      exact Runs.iconst d0_321 ci_0 <| Runs.istore (P' := [vr sa, vi i1, vr C.2.2.1, vl l3, v2, vl l5, v2, vl l7, v2, vi i9, vi i10, vi i11, vi i12, vi i13, vi i14, vi (0 : Int32), vi i16, vn, vn, vn, vn, vn, vn, vn, vn, vi t0, vi i26]) d0_322 (by decide) rfl <| Runs.goto (pc' := 736) d0_324 (by decide) <| L_law_b736_p hs k68 hk68 ob i1 l3 l5 l7 i9 i10 i11 i12 i13 i14 (0 : Int32) i16 t0 i26 hf
def L_law_b378 (NF : Nat) (z : Int32) (f : Int32 → Int32) (k68 : Rec → Int32 → Int64 → Int64 → Int64 → Int32 → Int32 → Int32 → Int32 → Int32 → Int32 → Int32 → Int32 → Option (Int32)) (ob : Rec) (i1 : Int32) (l3 : Int64) (l5 : Int64) (l7 : Int64) (i9 : Int32) (i10 : Int32) (i11 : Int32) (i12 : Int32) (i13 : Int32) (i14 : Int32) (i15 : Int32) (i16 : Int32) (i22 : Int32) (i26 : Int32) (t0 : Int32) : Option (Int32) :=
  if t0 = (0 : Int32) then
    if i22 = (0 : Int32) then
      L_law_b736 NF z f k68 ob i1 l3 l5 l7 (2 : Int32) i10 i11 i12 i13 i14 i15 i16 t0 i26
    else
      L_law_b736 NF z f k68 ob i1 l3 l5 l7 i9 (2 : Int32) i11 i12 i13 i14 i15 i16 t0 i26
  else
    L_law_b736 NF z f k68 ob i1 l3 l5 l7 i9 i10 i11 i12 i13 i14 i15 i16 t0 i26
set_option maxRecDepth 65536 in
set_option maxHeartbeats 4000000 in
theorem L_law_b378_p {C : Ctx} {sa : Nat} {z : Int32} {f : Int32 → Int32} (hs : ScrF C sa z f) {res : Int32} {NF : Nat} (k68 : Rec → Int32 → Int64 → Int64 → Int64 → Int32 → Int32 → Int32 → Int32 → Int32 → Int32 → Int32 → Int32 → Option (Int32)) (hk68 : ∀ (ob : Rec) (i1 : Int32) (l3 : Int64) (l5 : Int64) (l7 : Int64) (i9 : Int32) (i10 : Int32) (i11 : Int32) (i12 : Int32) (i13 : Int32) (i14 : Int32) (i15 : Int32) (i16 : Int32), k68 ob i1 l3 l5 l7 i9 i10 i11 i12 i13 i14 i15 i16 = some res → Runs C B0 7 209 68 [vr sa, vi i1, vr C.2.2.1, vl l3, v2, vl l5, v2, vl l7, v2, vi i9, vi i10, vi i11, vi i12, vi i13, vi i14, vi i15, vi i16, vn, vn, vn, vn, vn, vn, vn, vn, vn, vn] [] (C.2.2.1 + 1 + 6, (C.2.2.1, 6, ob) :: []) (fun v _ => v = (some (.int res)))) (ob : Rec) (i1 : Int32) (l3 : Int64) (l5 : Int64) (l7 : Int64) (i9 : Int32) (i10 : Int32) (i11 : Int32) (i12 : Int32) (i13 : Int32) (i14 : Int32) (i15 : Int32) (i16 : Int32) (i22 : Int32) (i26 : Int32) (t0 : Int32) (hf : L_law_b378 NF z f k68 ob i1 l3 l5 l7 i9 i10 i11 i12 i13 i14 i15 i16 i22 i26 t0 = some res) : Runs C B0 7 209 378 [vr sa, vi i1, vr C.2.2.1, vl l3, v2, vl l5, v2, vl l7, v2, vi i9, vi i10, vi i11, vi i12, vi i13, vi i14, vi i15, vi i16, vn, vn, vn, vn, vn, vi i22, vn, vn, vn, vi i26] [.int t0] (C.2.2.1 + 1 + 6, (C.2.2.1, 6, ob) :: []) (fun v _ => v = (some (.int res))) := by
  delta L_law_b378 at hf
  refine Runs.istore (P' := [vr sa, vi i1, vr C.2.2.1, vl l3, v2, vl l5, v2, vl l7, v2, vi i9, vi i10, vi i11, vi i12, vi i13, vi i14, vi i15, vi i16, vn, vn, vn, vn, vn, vi i22, vn, vn, vi t0, vi i26]) d0_378 (by decide) rfl <| Runs.iload d0_380 rfl <| ?_
  refine ite_el hf (fun hc58 hf => ?_) (fun hc58 hf => ?_)
  · refine Runs.ifN d0_382 (teq hc58).2 <| ?_
    refine Runs.iload d0_385 rfl <| ?_
    refine ite_el hf (fun hc59 hf => ?_) (fun hc59 hf => ?_)
    · refine Runs.ifN d0_387 (teq hc59).2 <| ?_
      exact Runs.iconst d0_390 ci_2 <| Runs.istore (P' := [vr sa, vi i1, vr C.2.2.1, vl l3, v2, vl l5, v2, vl l7, v2, vi (2 : Int32), vi i10, vi i11, vi i12, vi i13, vi i14, vi i15, vi i16, vn, vn, vn, vn, vn, vi i22, vn, vn, vi t0, vi i26]) d0_391 (by decide) rfl <| Runs.goto (pc' := 736) d0_393 (by decide) <| Runs.forget [true, true, true, true, true, true, true, true, true, true, true, true, true, true, true, true, true, false, false, false, false, false, false, false, false, true, true] rfl <| L_law_b736_p hs k68 hk68 ob i1 l3 l5 l7 (2 : Int32) i10 i11 i12 i13 i14 i15 i16 t0 i26 hf
    · refine Runs.ifY (pc' := 396) d0_387 (feq hc59).2 (by decide) <| ?_
      exact Runs.iconst d0_396 ci_2 <| Runs.istore (P' := [vr sa, vi i1, vr C.2.2.1, vl l3, v2, vl l5, v2, vl l7, v2, vi i9, vi (2 : Int32), vi i11, vi i12, vi i13, vi i14, vi i15, vi i16, vn, vn, vn, vn, vn, vi i22, vn, vn, vi t0, vi i26]) d0_397 (by decide) rfl <| Runs.goto (pc' := 736) d0_399 (by decide) <| Runs.forget [true, true, true, true, true, true, true, true, true, true, true, true, true, true, true, true, true, false, false, false, false, false, false, false, false, true, true] rfl <| L_law_b736_p hs k68 hk68 ob i1 l3 l5 l7 i9 (2 : Int32) i11 i12 i13 i14 i15 i16 t0 i26 hf
  · exact Runs.ifY (pc' := 736) d0_382 (feq hc58).2 (by decide) <| Runs.forget [true, true, true, true, true, true, true, true, true, true, true, true, true, true, true, true, true, false, false, false, false, false, false, false, false, true, true] rfl <| L_law_b736_p hs k68 hk68 ob i1 l3 l5 l7 i9 i10 i11 i12 i13 i14 i15 i16 t0 i26 hf
def L_law_b481 (NF : Nat) (z : Int32) (f : Int32 → Int32) (k68 : Rec → Int32 → Int64 → Int64 → Int64 → Int32 → Int32 → Int32 → Int32 → Int32 → Int32 → Int32 → Int32 → Option (Int32)) (ob : Rec) (i1 : Int32) (l3 : Int64) (l5 : Int64) (l7 : Int64) (i9 : Int32) (i10 : Int32) (i11 : Int32) (i12 : Int32) (i13 : Int32) (i14 : Int32) (i15 : Int32) (i16 : Int32) (i17 : Int32) (i22 : Int32) (i26 : Int32) (t0 : Int32) : Option (Int32) :=
  if t0 = (0 : Int32) then
    if i22 = (0 : Int32) then
      if i17 = (5 : Int32) then
        L_law_b736 NF z f k68 ob i1 (0 : Int64) l5 l7 (1 : Int32) i10 i11 i12 i13 i14 i15 i16 t0 i26
      else
        L_law_b736 NF z f k68 ob i1 l3 l5 l7 (1 : Int32) i10 i11 i12 i13 i14 i15 i16 t0 i26
    else
      if i17 = (5 : Int32) then
        L_law_b736 NF z f k68 ob i1 l3 (0 : Int64) l7 i9 (1 : Int32) i11 i12 i13 i14 i15 i16 t0 i26
      else
        L_law_b736 NF z f k68 ob i1 l3 l5 l7 i9 (1 : Int32) i11 i12 i13 i14 i15 i16 t0 i26
  else
    L_law_b736 NF z f k68 ob i1 l3 l5 l7 i9 i10 i11 i12 i13 i14 i15 i16 t0 i26
set_option maxRecDepth 65536 in
set_option maxHeartbeats 4000000 in
theorem L_law_b481_p {C : Ctx} {sa : Nat} {z : Int32} {f : Int32 → Int32} (hs : ScrF C sa z f) {res : Int32} {NF : Nat} (k68 : Rec → Int32 → Int64 → Int64 → Int64 → Int32 → Int32 → Int32 → Int32 → Int32 → Int32 → Int32 → Int32 → Option (Int32)) (hk68 : ∀ (ob : Rec) (i1 : Int32) (l3 : Int64) (l5 : Int64) (l7 : Int64) (i9 : Int32) (i10 : Int32) (i11 : Int32) (i12 : Int32) (i13 : Int32) (i14 : Int32) (i15 : Int32) (i16 : Int32), k68 ob i1 l3 l5 l7 i9 i10 i11 i12 i13 i14 i15 i16 = some res → Runs C B0 7 209 68 [vr sa, vi i1, vr C.2.2.1, vl l3, v2, vl l5, v2, vl l7, v2, vi i9, vi i10, vi i11, vi i12, vi i13, vi i14, vi i15, vi i16, vn, vn, vn, vn, vn, vn, vn, vn, vn, vn] [] (C.2.2.1 + 1 + 6, (C.2.2.1, 6, ob) :: []) (fun v _ => v = (some (.int res)))) (ob : Rec) (i1 : Int32) (l3 : Int64) (l5 : Int64) (l7 : Int64) (i9 : Int32) (i10 : Int32) (i11 : Int32) (i12 : Int32) (i13 : Int32) (i14 : Int32) (i15 : Int32) (i16 : Int32) (i17 : Int32) (i22 : Int32) (i26 : Int32) (t0 : Int32) (hf : L_law_b481 NF z f k68 ob i1 l3 l5 l7 i9 i10 i11 i12 i13 i14 i15 i16 i17 i22 i26 t0 = some res) : Runs C B0 7 209 481 [vr sa, vi i1, vr C.2.2.1, vl l3, v2, vl l5, v2, vl l7, v2, vi i9, vi i10, vi i11, vi i12, vi i13, vi i14, vi i15, vi i16, vi i17, vn, vn, vn, vn, vi i22, vn, vn, vn, vi i26] [.int t0] (C.2.2.1 + 1 + 6, (C.2.2.1, 6, ob) :: []) (fun v _ => v = (some (.int res))) := by
  delta L_law_b481 at hf
  refine Runs.istore (P' := [vr sa, vi i1, vr C.2.2.1, vl l3, v2, vl l5, v2, vl l7, v2, vi i9, vi i10, vi i11, vi i12, vi i13, vi i14, vi i15, vi i16, vi i17, vn, vn, vn, vn, vi i22, vn, vn, vi t0, vi i26]) d0_481 (by decide) rfl <| Runs.iload d0_483 rfl <| ?_
  refine ite_el hf (fun hc71 hf => ?_) (fun hc71 hf => ?_)
  · refine Runs.ifN d0_485 (teq hc71).2 <| ?_
    refine Runs.iload d0_488 rfl <| ?_
    refine ite_el hf (fun hc72 hf => ?_) (fun hc72 hf => ?_)
    · refine Runs.ifN d0_490 (teq hc72).2 <| ?_
      refine Runs.iconst d0_493 ci_1 <| Runs.istore (P' := [vr sa, vi i1, vr C.2.2.1, vl l3, v2, vl l5, v2, vl l7, v2, vi (1 : Int32), vi i10, vi i11, vi i12, vi i13, vi i14, vi i15, vi i16, vi i17, vn, vn, vn, vn, vi i22, vn, vn, vi t0, vi i26]) d0_494 (by decide) rfl <| Runs.iload d0_496 rfl <| Runs.iconst d0_498 ci_5 <| ?_
      refine ite_el hf (fun hc73 hf => ?_) (fun hc73 hf => ?_)
      · refine Runs.icN d0_499 (teq hc73).2 <| ?_
        exact Runs.lconst d0_502 cl_0 <| Runs.lstoreN (P' := [vr sa, vi i1, vr C.2.2.1, vl (0 : Int64), v2, vl l5, v2, vl l7, v2, vi (1 : Int32), vi i10, vi i11, vi i12, vi i13, vi i14, vi i15, vi i16, vi i17, vn, vn, vn, vn, vi i22, vn, vn, vi t0, vi i26]) d0_503 (by decide) rfl <| Runs.goto (pc' := 736) d0_504 (by decide) <| Runs.forget [true, true, true, true, true, true, true, true, true, true, true, true, true, true, true, true, true, false, false, false, false, false, false, false, false, true, true] rfl <| L_law_b736_p hs k68 hk68 ob i1 (0 : Int64) l5 l7 (1 : Int32) i10 i11 i12 i13 i14 i15 i16 t0 i26 hf
      · exact Runs.icY (pc' := 736) d0_499 (feq hc73).2 (by decide) <| Runs.forget [true, true, true, true, true, true, true, true, true, true, true, true, true, true, true, true, true, false, false, false, false, false, false, false, false, true, true] rfl <| L_law_b736_p hs k68 hk68 ob i1 l3 l5 l7 (1 : Int32) i10 i11 i12 i13 i14 i15 i16 t0 i26 hf
    · refine Runs.ifY (pc' := 507) d0_490 (feq hc72).2 (by decide) <| ?_
      refine Runs.iconst d0_507 ci_1 <| Runs.istore (P' := [vr sa, vi i1, vr C.2.2.1, vl l3, v2, vl l5, v2, vl l7, v2, vi i9, vi (1 : Int32), vi i11, vi i12, vi i13, vi i14, vi i15, vi i16, vi i17, vn, vn, vn, vn, vi i22, vn, vn, vi t0, vi i26]) d0_508 (by decide) rfl <| Runs.iload d0_510 rfl <| Runs.iconst d0_512 ci_5 <| ?_
      refine ite_el hf (fun hc74 hf => ?_) (fun hc74 hf => ?_)
      · refine Runs.icN d0_513 (teq hc74).2 <| ?_
        exact Runs.lconst d0_516 cl_0 <| Runs.lstore (P' := [vr sa, vi i1, vr C.2.2.1, vl l3, v2, vl (0 : Int64), v2, vl l7, v2, vi i9, vi (1 : Int32), vi i11, vi i12, vi i13, vi i14, vi i15, vi i16, vi i17, vn, vn, vn, vn, vi i22, vn, vn, vi t0, vi i26]) d0_517 (by decide) rfl <| Runs.goto (pc' := 736) d0_519 (by decide) <| Runs.forget [true, true, true, true, true, true, true, true, true, true, true, true, true, true, true, true, true, false, false, false, false, false, false, false, false, true, true] rfl <| L_law_b736_p hs k68 hk68 ob i1 l3 (0 : Int64) l7 i9 (1 : Int32) i11 i12 i13 i14 i15 i16 t0 i26 hf
      · exact Runs.icY (pc' := 736) d0_513 (feq hc74).2 (by decide) <| Runs.forget [true, true, true, true, true, true, true, true, true, true, true, true, true, true, true, true, true, false, false, false, false, false, false, false, false, true, true] rfl <| L_law_b736_p hs k68 hk68 ob i1 l3 l5 l7 i9 (1 : Int32) i11 i12 i13 i14 i15 i16 t0 i26 hf
  · exact Runs.ifY (pc' := 736) d0_485 (feq hc71).2 (by decide) <| Runs.forget [true, true, true, true, true, true, true, true, true, true, true, true, true, true, true, true, true, false, false, false, false, false, false, false, false, true, true] rfl <| L_law_b736_p hs k68 hk68 ob i1 l3 l5 l7 i9 i10 i11 i12 i13 i14 i15 i16 t0 i26 hf
def L_law_b439 (NF : Nat) (z : Int32) (f : Int32 → Int32) (k68 : Rec → Int32 → Int64 → Int64 → Int64 → Int32 → Int32 → Int32 → Int32 → Int32 → Int32 → Int32 → Int32 → Option (Int32)) (ob : Rec) (i1 : Int32) (l3 : Int64) (l5 : Int64) (l7 : Int64) (i9 : Int32) (i10 : Int32) (i11 : Int32) (i12 : Int32) (i13 : Int32) (i14 : Int32) (i15 : Int32) (i16 : Int32) (i17 : Int32) (i22 : Int32) (i23 : Int32) (i26 : Int32) : Option (Int32) :=
  if i15 = (0 : Int32) then
    if (1 : Int32) < i22 then
      L_law_b481 NF z f k68 ob i1 l3 l5 l7 i9 i10 i11 i12 i13 i14 i15 i16 i17 i22 i26 (-2 : Int32)
    else
      if i14 = (0 : Int32) then
        if i23 = (2 : Int32) then
          L_law_b481 NF z f k68 ob i1 l3 l5 l7 i9 i10 i11 i12 i13 i14 i15 i16 i17 i22 i26 (0 : Int32)
        else
          L_law_b481 NF z f k68 ob i1 l3 l5 l7 i9 i10 i11 i12 i13 i14 i15 i16 i17 i22 i26 (-4 : Int32)
      else
        L_law_b481 NF z f k68 ob i1 l3 l5 l7 i9 i10 i11 i12 i13 i14 i15 i16 i17 i22 i26 (-3 : Int32)
  else
    L_law_b481 NF z f k68 ob i1 l3 l5 l7 i9 i10 i11 i12 i13 i14 i15 i16 i17 i22 i26 (-1 : Int32)
set_option maxRecDepth 65536 in
set_option maxHeartbeats 4000000 in
theorem L_law_b439_p {C : Ctx} {sa : Nat} {z : Int32} {f : Int32 → Int32} (hs : ScrF C sa z f) {res : Int32} {NF : Nat} (k68 : Rec → Int32 → Int64 → Int64 → Int64 → Int32 → Int32 → Int32 → Int32 → Int32 → Int32 → Int32 → Int32 → Option (Int32)) (hk68 : ∀ (ob : Rec) (i1 : Int32) (l3 : Int64) (l5 : Int64) (l7 : Int64) (i9 : Int32) (i10 : Int32) (i11 : Int32) (i12 : Int32) (i13 : Int32) (i14 : Int32) (i15 : Int32) (i16 : Int32), k68 ob i1 l3 l5 l7 i9 i10 i11 i12 i13 i14 i15 i16 = some res → Runs C B0 7 209 68 [vr sa, vi i1, vr C.2.2.1, vl l3, v2, vl l5, v2, vl l7, v2, vi i9, vi i10, vi i11, vi i12, vi i13, vi i14, vi i15, vi i16, vn, vn, vn, vn, vn, vn, vn, vn, vn, vn] [] (C.2.2.1 + 1 + 6, (C.2.2.1, 6, ob) :: []) (fun v _ => v = (some (.int res)))) (ob : Rec) (i1 : Int32) (l3 : Int64) (l5 : Int64) (l7 : Int64) (i9 : Int32) (i10 : Int32) (i11 : Int32) (i12 : Int32) (i13 : Int32) (i14 : Int32) (i15 : Int32) (i16 : Int32) (i17 : Int32) (i22 : Int32) (i23 : Int32) (i26 : Int32) (hf : L_law_b439 NF z f k68 ob i1 l3 l5 l7 i9 i10 i11 i12 i13 i14 i15 i16 i17 i22 i23 i26 = some res) : Runs C B0 7 209 439 [vr sa, vi i1, vr C.2.2.1, vl l3, v2, vl l5, v2, vl l7, v2, vi i9, vi i10, vi i11, vi i12, vi i13, vi i14, vi i15, vi i16, vi i17, vn, vn, vn, vn, vi i22, vi i23, vn, vn, vi i26] [] (C.2.2.1 + 1 + 6, (C.2.2.1, 6, ob) :: []) (fun v _ => v = (some (.int res))) := by
  delta L_law_b439 at hf
  refine Runs.iload d0_439 rfl <| ?_
  refine ite_el hf (fun hc67 hf => ?_) (fun hc67 hf => ?_)
  · refine Runs.ifY (pc' := 448) d0_441 (teq hc67).1 (by decide) <| ?_
    refine Runs.iload d0_448 rfl <| Runs.iconst d0_450 ci_1 <| ?_
    refine ite_el hf (fun hc68 hf => ?_) (fun hc68 hf => ?_)
    · refine Runs.icN d0_451 (tlt hc68).2.2.2 <| ?_
      exact Runs.bipush d0_454 cb_m2 <| Runs.goto (pc' := 481) d0_456 (by decide) <| Runs.forget [true, true, true, true, true, true, true, true, true, true, true, true, true, true, true, true, true, true, false, false, false, false, true, false, false, false, true] rfl <| L_law_b481_p hs k68 hk68 ob i1 l3 l5 l7 i9 i10 i11 i12 i13 i14 i15 i16 i17 i22 i26 (-2 : Int32) hf
    · refine Runs.icY (pc' := 459) d0_451 (flt hc68).2.2.2 (by decide) <| ?_
      refine Runs.iload d0_459 rfl <| ?_
      refine ite_el hf (fun hc69 hf => ?_) (fun hc69 hf => ?_)
      · refine Runs.ifY (pc' := 469) d0_461 (teq hc69).1 (by decide) <| ?_
        refine Runs.iload d0_469 rfl <| Runs.iconst d0_471 ci_2 <| ?_
        refine ite_el hf (fun hc70 hf => ?_) (fun hc70 hf => ?_)
        · refine Runs.icY (pc' := 480) d0_472 (teq hc70).1 (by decide) <| ?_
          exact Runs.iconst d0_480 ci_0 <| Runs.forget [true, true, true, true, true, true, true, true, true, true, true, true, true, true, true, true, true, true, false, false, false, false, true, false, false, false, true] rfl <| L_law_b481_p hs k68 hk68 ob i1 l3 l5 l7 i9 i10 i11 i12 i13 i14 i15 i16 i17 i22 i26 (0 : Int32) hf
        · refine Runs.icN d0_472 (feq hc70).1 <| ?_
          exact Runs.bipush d0_475 cb_m4 <| Runs.goto (pc' := 481) d0_477 (by decide) <| Runs.forget [true, true, true, true, true, true, true, true, true, true, true, true, true, true, true, true, true, true, false, false, false, false, true, false, false, false, true] rfl <| L_law_b481_p hs k68 hk68 ob i1 l3 l5 l7 i9 i10 i11 i12 i13 i14 i15 i16 i17 i22 i26 (-4 : Int32) hf
      · refine Runs.ifN d0_461 (feq hc69).1 <| ?_
        exact Runs.bipush d0_464 cb_m3 <| Runs.goto (pc' := 481) d0_466 (by decide) <| Runs.forget [true, true, true, true, true, true, true, true, true, true, true, true, true, true, true, true, true, true, false, false, false, false, true, false, false, false, true] rfl <| L_law_b481_p hs k68 hk68 ob i1 l3 l5 l7 i9 i10 i11 i12 i13 i14 i15 i16 i17 i22 i26 (-3 : Int32) hf
  · refine Runs.ifN d0_441 (feq hc67).1 <| ?_
    exact Runs.iconst d0_444 ci_m1 <| Runs.goto (pc' := 481) d0_445 (by decide) <| Runs.forget [true, true, true, true, true, true, true, true, true, true, true, true, true, true, true, true, true, true, false, false, false, false, true, false, false, false, true] rfl <| L_law_b481_p hs k68 hk68 ob i1 l3 l5 l7 i9 i10 i11 i12 i13 i14 i15 i16 i17 i22 i26 (-1 : Int32) hf
def L_law_b414 (NF : Nat) (z : Int32) (f : Int32 → Int32) (k68 : Rec → Int32 → Int64 → Int64 → Int64 → Int32 → Int32 → Int32 → Int32 → Int32 → Int32 → Int32 → Int32 → Option (Int32)) (ob : Rec) (i1 : Int32) (l3 : Int64) (l5 : Int64) (l7 : Int64) (i9 : Int32) (i10 : Int32) (i11 : Int32) (i12 : Int32) (i13 : Int32) (i14 : Int32) (i15 : Int32) (i16 : Int32) (i17 : Int32) (i22 : Int32) (i23 : Int32) : Option (Int32) :=
  if i17 = (4 : Int32) then
    bind2 (X_reattachLeg ob i22) fun r61 q62 =>
    L_law_b439 NF z f k68 q62 i1 l3 l5 l7 i9 i10 i11 i12 i13 i14 i15 i16 i17 i22 i23 r61
  else
    bind2 (X_replaceLeg NF ob i22) fun r64 q65 =>
    L_law_b439 NF z f k68 q65 i1 l3 l5 l7 i9 i10 i11 i12 i13 i14 i15 i16 i17 i22 i23 r64
set_option maxRecDepth 65536 in
set_option maxHeartbeats 4000000 in
theorem L_law_b414_p {C : Ctx} {sa : Nat} {z : Int32} {f : Int32 → Int32} (hs : ScrF C sa z f) {res : Int32} {NF : Nat} (k68 : Rec → Int32 → Int64 → Int64 → Int64 → Int32 → Int32 → Int32 → Int32 → Int32 → Int32 → Int32 → Int32 → Option (Int32)) (hk68 : ∀ (ob : Rec) (i1 : Int32) (l3 : Int64) (l5 : Int64) (l7 : Int64) (i9 : Int32) (i10 : Int32) (i11 : Int32) (i12 : Int32) (i13 : Int32) (i14 : Int32) (i15 : Int32) (i16 : Int32), k68 ob i1 l3 l5 l7 i9 i10 i11 i12 i13 i14 i15 i16 = some res → Runs C B0 7 209 68 [vr sa, vi i1, vr C.2.2.1, vl l3, v2, vl l5, v2, vl l7, v2, vi i9, vi i10, vi i11, vi i12, vi i13, vi i14, vi i15, vi i16, vn, vn, vn, vn, vn, vn, vn, vn, vn, vn] [] (C.2.2.1 + 1 + 6, (C.2.2.1, 6, ob) :: []) (fun v _ => v = (some (.int res)))) (ob : Rec) (i1 : Int32) (l3 : Int64) (l5 : Int64) (l7 : Int64) (i9 : Int32) (i10 : Int32) (i11 : Int32) (i12 : Int32) (i13 : Int32) (i14 : Int32) (i15 : Int32) (i16 : Int32) (i17 : Int32) (i22 : Int32) (i23 : Int32) (hf : L_law_b414 NF z f k68 ob i1 l3 l5 l7 i9 i10 i11 i12 i13 i14 i15 i16 i17 i22 i23 = some res) : Runs C B0 7 209 414 [vr sa, vi i1, vr C.2.2.1, vl l3, v2, vl l5, v2, vl l7, v2, vi i9, vi i10, vi i11, vi i12, vi i13, vi i14, vi i15, vi i16, vi i17, vn, vn, vn, vn, vi i22, vi i23, vn, vn, vn] [] (C.2.2.1 + 1 + 6, (C.2.2.1, 6, ob) :: []) (fun v _ => v = (some (.int res))) := by
  delta L_law_b414 at hf
  refine Runs.iload d0_414 rfl <| Runs.iconst d0_416 ci_4 <| ?_
  refine ite_el hf (fun hc60 hf => ?_) (fun hc60 hf => ?_)
  · refine Runs.icN d0_417 (teq hc60).2 <| ?_
    refine Runs.aloadN d0_420 rfl <| Runs.iload d0_421 rfl <| ?_
    refine bind2_el hf fun r61 q62 hg63 hf => ?_
    exact Runs.callV (N := B21) (W := 0) (as := [.int i22]) (S' := []) d0_423 w129 w130 w131 w132 cw21 ar21 rk0_21_0 (by decide) rfl rfl (X_reattachLeg_pay hg63) <| ans1 <| Runs.istore (P' := [vr sa, vi i1, vr C.2.2.1, vl l3, v2, vl l5, v2, vl l7, v2, vi i9, vi i10, vi i11, vi i12, vi i13, vi i14, vi i15, vi i16, vi i17, vn, vn, vn, vn, vi i22, vi i23, vn, vn, vi r61]) d0_426 (by decide) rfl <| Runs.goto (pc' := 439) d0_428 (by decide) <| L_law_b439_p hs k68 hk68 q62 i1 l3 l5 l7 i9 i10 i11 i12 i13 i14 i15 i16 i17 i22 i23 r61 hf
  · refine Runs.icY (pc' := 431) d0_417 (feq hc60).2 (by decide) <| ?_
    refine Runs.aloadN d0_431 rfl <| Runs.iload d0_432 rfl <| ?_
    refine bind2_el hf fun r64 q65 hg66 hf => ?_
    exact Runs.callV (N := B26) (W := 0) (as := [.int i22]) (S' := []) d0_434 w151 w152 w153 w154 cw26 ar26 rk0_26_0 (by decide) rfl rfl (X_replaceLeg_pay hg66) <| ans1 <| Runs.istore (P' := [vr sa, vi i1, vr C.2.2.1, vl l3, v2, vl l5, v2, vl l7, v2, vi i9, vi i10, vi i11, vi i12, vi i13, vi i14, vi i15, vi i16, vi i17, vn, vn, vn, vn, vi i22, vi i23, vn, vn, vi r64]) d0_437 (by decide) rfl <| L_law_b439_p hs k68 hk68 q65 i1 l3 l5 l7 i9 i10 i11 i12 i13 i14 i15 i16 i17 i22 i23 r64 hf
def L_law_b572 (NF : Nat) (z : Int32) (f : Int32 → Int32) (k68 : Rec → Int32 → Int64 → Int64 → Int64 → Int32 → Int32 → Int32 → Int32 → Int32 → Int32 → Int32 → Int32 → Option (Int32)) (ob : Rec) (i1 : Int32) (l3 : Int64) (l5 : Int64) (l7 : Int64) (i9 : Int32) (i10 : Int32) (i11 : Int32) (i12 : Int32) (i13 : Int32) (i14 : Int32) (i15 : Int32) (i16 : Int32) (i26 : Int32) (t0 : Int32) : Option (Int32) :=
  if t0 = (0 : Int32) then
    if i9 = (1 : Int32) then
      L_law_b736 NF z f k68 ob i1 l5 l5 l7 (0 : Int32) (0 : Int32) i11 i12 i13 i14 i15 i16 t0 i26
    else
      L_law_b736 NF z f k68 ob i1 l3 l3 l7 (0 : Int32) (0 : Int32) i11 i12 i13 i14 i15 i16 t0 i26
  else
    L_law_b736 NF z f k68 ob i1 l3 l5 l7 i9 i10 i11 i12 i13 i14 i15 i16 t0 i26
set_option maxRecDepth 65536 in
set_option maxHeartbeats 4000000 in
theorem L_law_b572_p {C : Ctx} {sa : Nat} {z : Int32} {f : Int32 → Int32} (hs : ScrF C sa z f) {res : Int32} {NF : Nat} (k68 : Rec → Int32 → Int64 → Int64 → Int64 → Int32 → Int32 → Int32 → Int32 → Int32 → Int32 → Int32 → Int32 → Option (Int32)) (hk68 : ∀ (ob : Rec) (i1 : Int32) (l3 : Int64) (l5 : Int64) (l7 : Int64) (i9 : Int32) (i10 : Int32) (i11 : Int32) (i12 : Int32) (i13 : Int32) (i14 : Int32) (i15 : Int32) (i16 : Int32), k68 ob i1 l3 l5 l7 i9 i10 i11 i12 i13 i14 i15 i16 = some res → Runs C B0 7 209 68 [vr sa, vi i1, vr C.2.2.1, vl l3, v2, vl l5, v2, vl l7, v2, vi i9, vi i10, vi i11, vi i12, vi i13, vi i14, vi i15, vi i16, vn, vn, vn, vn, vn, vn, vn, vn, vn, vn] [] (C.2.2.1 + 1 + 6, (C.2.2.1, 6, ob) :: []) (fun v _ => v = (some (.int res)))) (ob : Rec) (i1 : Int32) (l3 : Int64) (l5 : Int64) (l7 : Int64) (i9 : Int32) (i10 : Int32) (i11 : Int32) (i12 : Int32) (i13 : Int32) (i14 : Int32) (i15 : Int32) (i16 : Int32) (i26 : Int32) (t0 : Int32) (hf : L_law_b572 NF z f k68 ob i1 l3 l5 l7 i9 i10 i11 i12 i13 i14 i15 i16 i26 t0 = some res) : Runs C B0 7 209 572 [vr sa, vi i1, vr C.2.2.1, vl l3, v2, vl l5, v2, vl l7, v2, vi i9, vi i10, vi i11, vi i12, vi i13, vi i14, vi i15, vi i16, vn, vn, vn, vn, vn, vn, vn, vn, vn, vi i26] [.int t0] (C.2.2.1 + 1 + 6, (C.2.2.1, 6, ob) :: []) (fun v _ => v = (some (.int res))) := by
  delta L_law_b572 at hf
  refine Runs.istore (P' := [vr sa, vi i1, vr C.2.2.1, vl l3, v2, vl l5, v2, vl l7, v2, vi i9, vi i10, vi i11, vi i12, vi i13, vi i14, vi i15, vi i16, vn, vn, vn, vn, vn, vn, vn, vn, vi t0, vi i26]) d0_572 (by decide) rfl <| Runs.iload d0_574 rfl <| ?_
  refine ite_el hf (fun hc75 hf => ?_) (fun hc75 hf => ?_)
  · refine Runs.ifN d0_576 (teq hc75).2 <| ?_
    refine Runs.iload d0_579 rfl <| Runs.iconst d0_581 ci_1 <| ?_
    refine ite_el hf (fun hc76 hf => ?_) (fun hc76 hf => ?_)
    · refine Runs.icN d0_582 (teq hc76).2 <| ?_
      exact Runs.lload d0_585 rfl <| Runs.lstoreN (P' := [vr sa, vi i1, vr C.2.2.1, vl l5, v2, vl l5, v2, vl l7, v2, vi i9, vi i10, vi i11, vi i12, vi i13, vi i14, vi i15, vi i16, vn, vn, vn, vn, vn, vn, vn, vn, vi t0, vi i26]) d0_587 (by decide) rfl <| Runs.goto (pc' := 594) d0_588 (by decide) <| Runs.iconst d0_594 ci_0 <| Runs.istore (P' := [vr sa, vi i1, vr C.2.2.1, vl l5, v2, vl l5, v2, vl l7, v2, vi (0 : Int32), vi i10, vi i11, vi i12, vi i13, vi i14, vi i15, vi i16, vn, vn, vn, vn, vn, vn, vn, vn, vi t0, vi i26]) d0_595 (by decide) rfl <| Runs.iconst d0_597 ci_0 <| Runs.istore (P' := [vr sa, vi i1, vr C.2.2.1, vl l5, v2, vl l5, v2, vl l7, v2, vi (0 : Int32), vi (0 : Int32), vi i11, vi i12, vi i13, vi i14, vi i15, vi i16, vn, vn, vn, vn, vn, vn, vn, vn, vi t0, vi i26]) d0_598 (by decide) rfl <| Runs.goto (pc' := 736) d0_600 (by decide) <| L_law_b736_p hs k68 hk68 ob i1 l5 l5 l7 (0 : Int32) (0 : Int32) i11 i12 i13 i14 i15 i16 t0 i26 hf
    · refine Runs.icY (pc' := 591) d0_582 (feq hc76).2 (by decide) <| ?_
      exact Runs.lloadN d0_591 rfl <| Runs.lstore (P' := [vr sa, vi i1, vr C.2.2.1, vl l3, v2, vl l3, v2, vl l7, v2, vi i9, vi i10, vi i11, vi i12, vi i13, vi i14, vi i15, vi i16, vn, vn, vn, vn, vn, vn, vn, vn, vi t0, vi i26]) d0_592 (by decide) rfl <| Runs.iconst d0_594 ci_0 <| Runs.istore (P' := [vr sa, vi i1, vr C.2.2.1, vl l3, v2, vl l3, v2, vl l7, v2, vi (0 : Int32), vi i10, vi i11, vi i12, vi i13, vi i14, vi i15, vi i16, vn, vn, vn, vn, vn, vn, vn, vn, vi t0, vi i26]) d0_595 (by decide) rfl <| Runs.iconst d0_597 ci_0 <| Runs.istore (P' := [vr sa, vi i1, vr C.2.2.1, vl l3, v2, vl l3, v2, vl l7, v2, vi (0 : Int32), vi (0 : Int32), vi i11, vi i12, vi i13, vi i14, vi i15, vi i16, vn, vn, vn, vn, vn, vn, vn, vn, vi t0, vi i26]) d0_598 (by decide) rfl <| Runs.goto (pc' := 736) d0_600 (by decide) <| L_law_b736_p hs k68 hk68 ob i1 l3 l3 l7 (0 : Int32) (0 : Int32) i11 i12 i13 i14 i15 i16 t0 i26 hf
  · exact Runs.ifY (pc' := 736) d0_576 (feq hc75).2 (by decide) <| L_law_b736_p hs k68 hk68 ob i1 l3 l5 l7 i9 i10 i11 i12 i13 i14 i15 i16 t0 i26 hf
def L_law_b670 (NF : Nat) (z : Int32) (f : Int32 → Int32) (k68 : Rec → Int32 → Int64 → Int64 → Int64 → Int32 → Int32 → Int32 → Int32 → Int32 → Int32 → Int32 → Int32 → Option (Int32)) (ob : Rec) (i1 : Int32) (l3 : Int64) (l5 : Int64) (l7 : Int64) (i9 : Int32) (i10 : Int32) (i11 : Int32) (i12 : Int32) (i13 : Int32) (i14 : Int32) (i15 : Int32) (i16 : Int32) (i26 : Int32) : Option (Int32) :=
  if i13 = (0 : Int32) then
    (L_put l3 i11 i12).bind fun r84 =>
    L_law_b736 NF z f k68 ob i1 r84 l5 l7 i9 i10 i11 i12 (1 : Int32) i14 i15 i16 (1 : Int32) i26
  else
    if i13 = (1 : Int32) then
      (L_put l5 i11 i12).bind fun r87 =>
      L_law_b736 NF z f k68 ob i1 l3 r87 l7 i9 i10 i11 i12 (2 : Int32) i14 i15 i16 (2 : Int32) i26
    else
      (L_put l7 i11 i12).bind fun r89 =>
      L_law_b736 NF z f k68 ob i1 l3 l5 r89 i9 i10 i11 i12 i13 (0 : Int32) i15 i16 (3 : Int32) i26
set_option maxRecDepth 65536 in
set_option maxHeartbeats 4000000 in
theorem L_law_b670_p {C : Ctx} {sa : Nat} {z : Int32} {f : Int32 → Int32} (hs : ScrF C sa z f) {res : Int32} {NF : Nat} (k68 : Rec → Int32 → Int64 → Int64 → Int64 → Int32 → Int32 → Int32 → Int32 → Int32 → Int32 → Int32 → Int32 → Option (Int32)) (hk68 : ∀ (ob : Rec) (i1 : Int32) (l3 : Int64) (l5 : Int64) (l7 : Int64) (i9 : Int32) (i10 : Int32) (i11 : Int32) (i12 : Int32) (i13 : Int32) (i14 : Int32) (i15 : Int32) (i16 : Int32), k68 ob i1 l3 l5 l7 i9 i10 i11 i12 i13 i14 i15 i16 = some res → Runs C B0 7 209 68 [vr sa, vi i1, vr C.2.2.1, vl l3, v2, vl l5, v2, vl l7, v2, vi i9, vi i10, vi i11, vi i12, vi i13, vi i14, vi i15, vi i16, vn, vn, vn, vn, vn, vn, vn, vn, vn, vn] [] (C.2.2.1 + 1 + 6, (C.2.2.1, 6, ob) :: []) (fun v _ => v = (some (.int res)))) (ob : Rec) (i1 : Int32) (l3 : Int64) (l5 : Int64) (l7 : Int64) (i9 : Int32) (i10 : Int32) (i11 : Int32) (i12 : Int32) (i13 : Int32) (i14 : Int32) (i15 : Int32) (i16 : Int32) (i26 : Int32) (hf : L_law_b670 NF z f k68 ob i1 l3 l5 l7 i9 i10 i11 i12 i13 i14 i15 i16 i26 = some res) : Runs C B0 7 209 670 [vr sa, vi i1, vr C.2.2.1, vl l3, v2, vl l5, v2, vl l7, v2, vi i9, vi i10, vi i11, vi i12, vi i13, vi i14, vi i15, vi i16, vn, vn, vn, vn, vn, vn, vn, vn, vn, vi i26] [] (C.2.2.1 + 1 + 6, (C.2.2.1, 6, ob) :: []) (fun v _ => v = (some (.int res))) := by
  delta L_law_b670 at hf
  refine Runs.iload d0_670 rfl <| ?_
  refine ite_el hf (fun hc83 hf => ?_) (fun hc83 hf => ?_)
  · refine Runs.ifN d0_672 (teq hc83).2 <| ?_
    refine Runs.lloadN d0_675 rfl <| Runs.iload d0_676 rfl <| Runs.iload d0_678 rfl <| ?_
    refine bind_el hf fun r84 hg85 hf => ?_
    exact Runs.callS (N := B23) (W := 0) (as := [.long l3, .int i11, .int i12]) (S' := []) d0_680 w138 w139 cw23 ar23 rk0_23_0 (by decide) rfl rfl (L_put_pay hg85) <| ans1 <| Runs.lstoreN (P' := [vr sa, vi i1, vr C.2.2.1, vl r84, v2, vl l5, v2, vl l7, v2, vi i9, vi i10, vi i11, vi i12, vi i13, vi i14, vi i15, vi i16, vn, vn, vn, vn, vn, vn, vn, vn, vn, vi i26]) d0_683 (by decide) rfl <| Runs.iconst d0_684 ci_1 <| Runs.istore (P' := [vr sa, vi i1, vr C.2.2.1, vl r84, v2, vl l5, v2, vl l7, v2, vi i9, vi i10, vi i11, vi i12, vi (1 : Int32), vi i14, vi i15, vi i16, vn, vn, vn, vn, vn, vn, vn, vn, vn, vi i26]) d0_685 (by decide) rfl <| Runs.iconst d0_687 ci_1 <| Runs.istore (P' := [vr sa, vi i1, vr C.2.2.1, vl r84, v2, vl l5, v2, vl l7, v2, vi i9, vi i10, vi i11, vi i12, vi (1 : Int32), vi i14, vi i15, vi i16, vn, vn, vn, vn, vn, vn, vn, vn, vi (1 : Int32), vi i26]) d0_688 (by decide) rfl <| Runs.goto (pc' := 736) d0_690 (by decide) <| L_law_b736_p hs k68 hk68 ob i1 r84 l5 l7 i9 i10 i11 i12 (1 : Int32) i14 i15 i16 (1 : Int32) i26 hf
  · refine Runs.ifY (pc' := 693) d0_672 (feq hc83).2 (by decide) <| ?_
    refine Runs.iload d0_693 rfl <| Runs.iconst d0_695 ci_1 <| ?_
    refine ite_el hf (fun hc86 hf => ?_) (fun hc86 hf => ?_)
    · refine Runs.icN d0_696 (teq hc86).2 <| ?_
      refine Runs.lload d0_699 rfl <| Runs.iload d0_701 rfl <| Runs.iload d0_703 rfl <| ?_
      refine bind_el hf fun r87 hg88 hf => ?_
      exact Runs.callS (N := B23) (W := 0) (as := [.long l5, .int i11, .int i12]) (S' := []) d0_705 w138 w139 cw23 ar23 rk0_23_0 (by decide) rfl rfl (L_put_pay hg88) <| ans1 <| Runs.lstore (P' := [vr sa, vi i1, vr C.2.2.1, vl l3, v2, vl r87, v2, vl l7, v2, vi i9, vi i10, vi i11, vi i12, vi i13, vi i14, vi i15, vi i16, vn, vn, vn, vn, vn, vn, vn, vn, vn, vi i26]) d0_708 (by decide) rfl <| Runs.iconst d0_710 ci_2 <| Runs.istore (P' := [vr sa, vi i1, vr C.2.2.1, vl l3, v2, vl r87, v2, vl l7, v2, vi i9, vi i10, vi i11, vi i12, vi (2 : Int32), vi i14, vi i15, vi i16, vn, vn, vn, vn, vn, vn, vn, vn, vn, vi i26]) d0_711 (by decide) rfl <| Runs.iconst d0_713 ci_2 <| Runs.istore (P' := [vr sa, vi i1, vr C.2.2.1, vl l3, v2, vl r87, v2, vl l7, v2, vi i9, vi i10, vi i11, vi i12, vi (2 : Int32), vi i14, vi i15, vi i16, vn, vn, vn, vn, vn, vn, vn, vn, vi (2 : Int32), vi i26]) d0_714 (by decide) rfl <| Runs.goto (pc' := 736) d0_716 (by decide) <| L_law_b736_p hs k68 hk68 ob i1 l3 r87 l7 i9 i10 i11 i12 (2 : Int32) i14 i15 i16 (2 : Int32) i26 hf
    · refine Runs.icY (pc' := 719) d0_696 (feq hc86).2 (by decide) <| ?_
      refine Runs.lload d0_719 rfl <| Runs.iload d0_721 rfl <| Runs.iload d0_723 rfl <| ?_
      refine bind_el hf fun r89 hg90 hf => ?_
      exact Runs.callS (N := B23) (W := 0) (as := [.long l7, .int i11, .int i12]) (S' := []) d0_725 w138 w139 cw23 ar23 rk0_23_0 (by decide) rfl rfl (L_put_pay hg90) <| ans1 <| Runs.lstore (P' := [vr sa, vi i1, vr C.2.2.1, vl l3, v2, vl l5, v2, vl r89, v2, vi i9, vi i10, vi i11, vi i12, vi i13, vi i14, vi i15, vi i16, vn, vn, vn, vn, vn, vn, vn, vn, vn, vi i26]) d0_728 (by decide) rfl <| Runs.iconst d0_730 ci_0 <| Runs.istore (P' := [vr sa, vi i1, vr C.2.2.1, vl l3, v2, vl l5, v2, vl r89, v2, vi i9, vi i10, vi i11, vi i12, vi i13, vi (0 : Int32), vi i15, vi i16, vn, vn, vn, vn, vn, vn, vn, vn, vn, vi i26]) d0_731 (by decide) rfl <| Runs.iconst d0_733 ci_3 <| Runs.istore (P' := [vr sa, vi i1, vr C.2.2.1, vl l3, v2, vl l5, v2, vl r89, v2, vi i9, vi i10, vi i11, vi i12, vi i13, vi (0 : Int32), vi i15, vi i16, vn, vn, vn, vn, vn, vn, vn, vn, vi (3 : Int32), vi i26]) d0_734 (by decide) rfl <| L_law_b736_p hs k68 hk68 ob i1 l3 l5 r89 i9 i10 i11 i12 i13 (0 : Int32) i15 i16 (3 : Int32) i26 hf
def L_law_b655 (NF : Nat) (z : Int32) (f : Int32 → Int32) (k68 : Rec → Int32 → Int64 → Int64 → Int64 → Int32 → Int32 → Int32 → Int32 → Int32 → Int32 → Int32 → Int32 → Option (Int32)) (ob : Rec) (i1 : Int32) (l3 : Int64) (l5 : Int64) (l7 : Int64) (i9 : Int32) (i10 : Int32) (i11 : Int32) (i12 : Int32) (i13 : Int32) (i14 : Int32) (i15 : Int32) (i16 : Int32) (i26 : Int32) : Option (Int32) :=
  if i13 = (1 : Int32) then
    if i10 = (2 : Int32) then
      L_law_b670 NF z f k68 ob i1 l3 l5 l7 i9 i10 i11 i12 (2 : Int32) i14 i15 i16 i26
    else
      L_law_b670 NF z f k68 ob i1 l3 l5 l7 i9 i10 i11 i12 i13 i14 i15 i16 i26
  else
    L_law_b670 NF z f k68 ob i1 l3 l5 l7 i9 i10 i11 i12 i13 i14 i15 i16 i26
set_option maxRecDepth 65536 in
set_option maxHeartbeats 4000000 in
theorem L_law_b655_p {C : Ctx} {sa : Nat} {z : Int32} {f : Int32 → Int32} (hs : ScrF C sa z f) {res : Int32} {NF : Nat} (k68 : Rec → Int32 → Int64 → Int64 → Int64 → Int32 → Int32 → Int32 → Int32 → Int32 → Int32 → Int32 → Int32 → Option (Int32)) (hk68 : ∀ (ob : Rec) (i1 : Int32) (l3 : Int64) (l5 : Int64) (l7 : Int64) (i9 : Int32) (i10 : Int32) (i11 : Int32) (i12 : Int32) (i13 : Int32) (i14 : Int32) (i15 : Int32) (i16 : Int32), k68 ob i1 l3 l5 l7 i9 i10 i11 i12 i13 i14 i15 i16 = some res → Runs C B0 7 209 68 [vr sa, vi i1, vr C.2.2.1, vl l3, v2, vl l5, v2, vl l7, v2, vi i9, vi i10, vi i11, vi i12, vi i13, vi i14, vi i15, vi i16, vn, vn, vn, vn, vn, vn, vn, vn, vn, vn] [] (C.2.2.1 + 1 + 6, (C.2.2.1, 6, ob) :: []) (fun v _ => v = (some (.int res)))) (ob : Rec) (i1 : Int32) (l3 : Int64) (l5 : Int64) (l7 : Int64) (i9 : Int32) (i10 : Int32) (i11 : Int32) (i12 : Int32) (i13 : Int32) (i14 : Int32) (i15 : Int32) (i16 : Int32) (i26 : Int32) (hf : L_law_b655 NF z f k68 ob i1 l3 l5 l7 i9 i10 i11 i12 i13 i14 i15 i16 i26 = some res) : Runs C B0 7 209 655 [vr sa, vi i1, vr C.2.2.1, vl l3, v2, vl l5, v2, vl l7, v2, vi i9, vi i10, vi i11, vi i12, vi i13, vi i14, vi i15, vi i16, vn, vn, vn, vn, vn, vn, vn, vn, vn, vi i26] [] (C.2.2.1 + 1 + 6, (C.2.2.1, 6, ob) :: []) (fun v _ => v = (some (.int res))) := by
  delta L_law_b655 at hf
  refine Runs.iload d0_655 rfl <| Runs.iconst d0_657 ci_1 <| ?_
  refine ite_el hf (fun hc81 hf => ?_) (fun hc81 hf => ?_)
  · refine Runs.icN d0_658 (teq hc81).2 <| ?_
    refine Runs.iload d0_661 rfl <| Runs.iconst d0_663 ci_2 <| ?_
    refine ite_el hf (fun hc82 hf => ?_) (fun hc82 hf => ?_)
    · refine Runs.icN d0_664 (teq hc82).2 <| ?_
      exact Runs.iconst d0_667 ci_2 <| Runs.istore (P' := [vr sa, vi i1, vr C.2.2.1, vl l3, v2, vl l5, v2, vl l7, v2, vi i9, vi i10, vi i11, vi i12, vi (2 : Int32), vi i14, vi i15, vi i16, vn, vn, vn, vn, vn, vn, vn, vn, vn, vi i26]) d0_668 (by decide) rfl <| L_law_b670_p hs k68 hk68 ob i1 l3 l5 l7 i9 i10 i11 i12 (2 : Int32) i14 i15 i16 i26 hf
    · exact Runs.icY (pc' := 670) d0_664 (feq hc82).2 (by decide) <| L_law_b670_p hs k68 hk68 ob i1 l3 l5 l7 i9 i10 i11 i12 i13 i14 i15 i16 i26 hf
  · exact Runs.icY (pc' := 670) d0_658 (feq hc81).2 (by decide) <| L_law_b670_p hs k68 hk68 ob i1 l3 l5 l7 i9 i10 i11 i12 i13 i14 i15 i16 i26 hf
def L_law_b629 (NF : Nat) (z : Int32) (f : Int32 → Int32) (k68 : Rec → Int32 → Int64 → Int64 → Int64 → Int32 → Int32 → Int32 → Int32 → Int32 → Int32 → Int32 → Int32 → Option (Int32)) (ob : Rec) (i1 : Int32) (l3 : Int64) (l5 : Int64) (l7 : Int64) (i9 : Int32) (i10 : Int32) (i11 : Int32) (i12 : Int32) (i13 : Int32) (i14 : Int32) (i15 : Int32) (i16 : Int32) (i26 : Int32) (t0 : Int32) : Option (Int32) :=
  if i15 = (0 : Int32) then
    if i14 = (0 : Int32) then
      L_law_b736 NF z f k68 ob i1 l3 l5 l7 i9 i10 i11 i12 i13 i14 i15 i16 t0 i26
    else
      if i13 = (0 : Int32) then
        if i9 = (2 : Int32) then
          L_law_b655 NF z f k68 ob i1 l3 l5 l7 i9 i10 i11 i12 (1 : Int32) i14 i15 i16 i26
        else
          L_law_b655 NF z f k68 ob i1 l3 l5 l7 i9 i10 i11 i12 i13 i14 i15 i16 i26
      else
        L_law_b655 NF z f k68 ob i1 l3 l5 l7 i9 i10 i11 i12 i13 i14 i15 i16 i26
  else
    L_law_b736 NF z f k68 ob i1 l3 l5 l7 i9 i10 i11 i12 i13 i14 i15 i16 t0 i26
set_option maxRecDepth 65536 in
set_option maxHeartbeats 4000000 in
theorem L_law_b629_p {C : Ctx} {sa : Nat} {z : Int32} {f : Int32 → Int32} (hs : ScrF C sa z f) {res : Int32} {NF : Nat} (k68 : Rec → Int32 → Int64 → Int64 → Int64 → Int32 → Int32 → Int32 → Int32 → Int32 → Int32 → Int32 → Int32 → Option (Int32)) (hk68 : ∀ (ob : Rec) (i1 : Int32) (l3 : Int64) (l5 : Int64) (l7 : Int64) (i9 : Int32) (i10 : Int32) (i11 : Int32) (i12 : Int32) (i13 : Int32) (i14 : Int32) (i15 : Int32) (i16 : Int32), k68 ob i1 l3 l5 l7 i9 i10 i11 i12 i13 i14 i15 i16 = some res → Runs C B0 7 209 68 [vr sa, vi i1, vr C.2.2.1, vl l3, v2, vl l5, v2, vl l7, v2, vi i9, vi i10, vi i11, vi i12, vi i13, vi i14, vi i15, vi i16, vn, vn, vn, vn, vn, vn, vn, vn, vn, vn] [] (C.2.2.1 + 1 + 6, (C.2.2.1, 6, ob) :: []) (fun v _ => v = (some (.int res)))) (ob : Rec) (i1 : Int32) (l3 : Int64) (l5 : Int64) (l7 : Int64) (i9 : Int32) (i10 : Int32) (i11 : Int32) (i12 : Int32) (i13 : Int32) (i14 : Int32) (i15 : Int32) (i16 : Int32) (i26 : Int32) (t0 : Int32) (hf : L_law_b629 NF z f k68 ob i1 l3 l5 l7 i9 i10 i11 i12 i13 i14 i15 i16 i26 t0 = some res) : Runs C B0 7 209 629 [vr sa, vi i1, vr C.2.2.1, vl l3, v2, vl l5, v2, vl l7, v2, vi i9, vi i10, vi i11, vi i12, vi i13, vi i14, vi i15, vi i16, vn, vn, vn, vn, vn, vn, vn, vn, vn, vi i26] [.int t0] (C.2.2.1 + 1 + 6, (C.2.2.1, 6, ob) :: []) (fun v _ => v = (some (.int res))) := by
  delta L_law_b629 at hf
  refine Runs.istore (P' := [vr sa, vi i1, vr C.2.2.1, vl l3, v2, vl l5, v2, vl l7, v2, vi i9, vi i10, vi i11, vi i12, vi i13, vi i14, vi i15, vi i16, vn, vn, vn, vn, vn, vn, vn, vn, vi t0, vi i26]) d0_629 (by decide) rfl <| Runs.iload d0_631 rfl <| ?_
  refine ite_el hf (fun hc77 hf => ?_) (fun hc77 hf => ?_)
  · refine Runs.ifN d0_633 (teq hc77).2 <| ?_
    refine Runs.iload d0_636 rfl <| ?_
    refine ite_el hf (fun hc78 hf => ?_) (fun hc78 hf => ?_)
    · exact Runs.ifY (pc' := 736) d0_638 (teq hc78).1 (by decide) <| L_law_b736_p hs k68 hk68 ob i1 l3 l5 l7 i9 i10 i11 i12 i13 i14 i15 i16 t0 i26 hf
    · refine Runs.ifN d0_638 (feq hc78).1 <| ?_
      refine Runs.iload d0_641 rfl <| ?_
      refine ite_el hf (fun hc79 hf => ?_) (fun hc79 hf => ?_)
      · refine Runs.ifN d0_643 (teq hc79).2 <| ?_
        refine Runs.iload d0_646 rfl <| Runs.iconst d0_648 ci_2 <| ?_
        refine ite_el hf (fun hc80 hf => ?_) (fun hc80 hf => ?_)
        · refine Runs.icN d0_649 (teq hc80).2 <| ?_
          exact Runs.iconst d0_652 ci_1 <| Runs.istore (P' := [vr sa, vi i1, vr C.2.2.1, vl l3, v2, vl l5, v2, vl l7, v2, vi i9, vi i10, vi i11, vi i12, vi (1 : Int32), vi i14, vi i15, vi i16, vn, vn, vn, vn, vn, vn, vn, vn, vi t0, vi i26]) d0_653 (by decide) rfl <| Runs.forget [true, true, true, true, true, true, true, true, true, true, true, true, true, true, true, true, true, false, false, false, false, false, false, false, false, false, true] rfl <| L_law_b655_p hs k68 hk68 ob i1 l3 l5 l7 i9 i10 i11 i12 (1 : Int32) i14 i15 i16 i26 hf
        · exact Runs.icY (pc' := 655) d0_649 (feq hc80).2 (by decide) <| Runs.forget [true, true, true, true, true, true, true, true, true, true, true, true, true, true, true, true, true, false, false, false, false, false, false, false, false, false, true] rfl <| L_law_b655_p hs k68 hk68 ob i1 l3 l5 l7 i9 i10 i11 i12 i13 i14 i15 i16 i26 hf
      · exact Runs.ifY (pc' := 655) d0_643 (feq hc79).2 (by decide) <| Runs.forget [true, true, true, true, true, true, true, true, true, true, true, true, true, true, true, true, true, false, false, false, false, false, false, false, false, false, true] rfl <| L_law_b655_p hs k68 hk68 ob i1 l3 l5 l7 i9 i10 i11 i12 i13 i14 i15 i16 i26 hf
  · exact Runs.ifY (pc' := 736) d0_633 (feq hc77).2 (by decide) <| L_law_b736_p hs k68 hk68 ob i1 l3 l5 l7 i9 i10 i11 i12 i13 i14 i15 i16 t0 i26 hf
def L_law_b162 (NF : Nat) (z : Int32) (f : Int32 → Int32) (k68 : Rec → Int32 → Int64 → Int64 → Int64 → Int32 → Int32 → Int32 → Int32 → Int32 → Int32 → Int32 → Int32 → Option (Int32)) (ob : Rec) (i1 : Int32) (l3 : Int64) (l5 : Int64) (l7 : Int64) (i9 : Int32) (i10 : Int32) (i11 : Int32) (i12 : Int32) (i13 : Int32) (i14 : Int32) (i15 : Int32) (i16 : Int32) (i17 : Int32) (i20 : Int32) (i21 : Int32) (i22 : Int32) (i23 : Int32) (t0 : Int32) : Option (Int32) :=
  if i17 = (0 : Int32) then
    bind2 (X_write ob i20 i21) fun r13 q14 =>
    if i15 = (0 : Int32) then
      if i20 < (12 : Int32) then
        if i21 < (0 : Int32) then
          L_law_b216 NF z f k68 q14 i1 l3 l5 l7 i9 i10 i11 i12 i13 i14 i15 i16 i20 i21 r13 (-2 : Int32)
        else
          if i14 = (0 : Int32) then
            L_law_b216 NF z f k68 q14 i1 l3 l5 l7 i9 i10 i11 i12 i13 i14 i15 i16 i20 i21 r13 (0 : Int32)
          else
            L_law_b216 NF z f k68 q14 i1 l3 l5 l7 i9 i10 i11 i12 i13 i14 i15 i16 i20 i21 r13 (-3 : Int32)
      else
        L_law_b216 NF z f k68 q14 i1 l3 l5 l7 i9 i10 i11 i12 i13 i14 i15 i16 i20 i21 r13 (-2 : Int32)
    else
      L_law_b216 NF z f k68 q14 i1 l3 l5 l7 i9 i10 i11 i12 i13 i14 i15 i16 i20 i21 r13 (-1 : Int32)
  else
    if i17 = (1 : Int32) then
      bind2 (X_crash ob) fun r21 q22 =>
      if i15 = (0 : Int32) then
        L_law_b262 NF z f k68 q22 i1 l3 l5 l7 i9 i10 i11 i12 i13 i14 i15 i16 r21 (0 : Int32)
      else
        L_law_b262 NF z f k68 q22 i1 l3 l5 l7 i9 i10 i11 i12 i13 i14 i15 i16 r21 (-1 : Int32)
    else
      if i17 = (2 : Int32) then
        bind2 (X_restart ob) fun r26 q27 =>
        if i15 = (0 : Int32) then
          L_law_b301 NF z f k68 q27 i1 l3 l5 l7 i9 i10 i11 i12 i13 i14 i15 i16 r26 (-4 : Int32)
        else
          L_law_b301 NF z f k68 q27 i1 l3 l5 l7 i9 i10 i11 i12 i13 i14 i15 i16 r26 (0 : Int32)
      else
        if i17 = (3 : Int32) then
          bind2 (X_failLeg ob i22) fun r31 q32 =>
          if i15 = (0 : Int32) then
            if (1 : Int32) < i22 then
              L_law_b378 NF z f k68 q32 i1 l3 l5 l7 i9 i10 i11 i12 i13 i14 i15 i16 i22 r31 (-2 : Int32)
            else
              if i23 = (2 : Int32) then
                L_law_b378 NF z f k68 q32 i1 l3 l5 l7 i9 i10 i11 i12 i13 i14 i15 i16 i22 r31 (-4 : Int32)
              else
                if t0 = (0 : Int32) then
                  L_law_b378 NF z f k68 q32 i1 l3 l5 l7 i9 i10 i11 i12 i13 i14 i15 i16 i22 r31 (0 : Int32)
                else
                  L_law_b378 NF z f k68 q32 i1 l3 l5 l7 i9 i10 i11 i12 i13 i14 i15 i16 i22 r31 (-4 : Int32)
          else
            L_law_b378 NF z f k68 q32 i1 l3 l5 l7 i9 i10 i11 i12 i13 i14 i15 i16 i22 r31 (-1 : Int32)
        else
          if i17 = (4 : Int32) then
            L_law_b414 NF z f k68 ob i1 l3 l5 l7 i9 i10 i11 i12 i13 i14 i15 i16 i17 i22 i23
          else
            if i17 = (5 : Int32) then
              L_law_b414 NF z f k68 ob i1 l3 l5 l7 i9 i10 i11 i12 i13 i14 i15 i16 i17 i22 i23
            else
              if i17 = (6 : Int32) then
                bind2 (X_resync NF ob) fun r41 q42 =>
                if i15 = (0 : Int32) then
                  if i14 = (0 : Int32) then
                    if i9 = (1 : Int32) then
                      L_law_b572 NF z f k68 q42 i1 l3 l5 l7 i9 i10 i11 i12 i13 i14 i15 i16 r41 (0 : Int32)
                    else
                      if i10 = (1 : Int32) then
                        L_law_b572 NF z f k68 q42 i1 l3 l5 l7 i9 i10 i11 i12 i13 i14 i15 i16 r41 (0 : Int32)
                      else
                        L_law_b572 NF z f k68 q42 i1 l3 l5 l7 i9 i10 i11 i12 i13 i14 i15 i16 r41 (-4 : Int32)
                  else
                    L_law_b572 NF z f k68 q42 i1 l3 l5 l7 i9 i10 i11 i12 i13 i14 i15 i16 r41 (-3 : Int32)
                else
                  L_law_b572 NF z f k68 q42 i1 l3 l5 l7 i9 i10 i11 i12 i13 i14 i15 i16 r41 (-1 : Int32)
              else
                bind2 (X_step NF ob) fun r48 q49 =>
                if i15 = (0 : Int32) then
                  if i14 = (0 : Int32) then
                    L_law_b629 NF z f k68 q49 i1 l3 l5 l7 i9 i10 i11 i12 i13 i14 i15 i16 r48 (-5 : Int32)
                  else
                    L_law_b629 NF z f k68 q49 i1 l3 l5 l7 i9 i10 i11 i12 i13 i14 i15 i16 r48 (0 : Int32)
                else
                  L_law_b629 NF z f k68 q49 i1 l3 l5 l7 i9 i10 i11 i12 i13 i14 i15 i16 r48 (-1 : Int32)
set_option maxRecDepth 65536 in
set_option maxHeartbeats 4000000 in
theorem L_law_b162_p {C : Ctx} {sa : Nat} {z : Int32} {f : Int32 → Int32} (hs : ScrF C sa z f) {res : Int32} {NF : Nat} (k68 : Rec → Int32 → Int64 → Int64 → Int64 → Int32 → Int32 → Int32 → Int32 → Int32 → Int32 → Int32 → Int32 → Option (Int32)) (hk68 : ∀ (ob : Rec) (i1 : Int32) (l3 : Int64) (l5 : Int64) (l7 : Int64) (i9 : Int32) (i10 : Int32) (i11 : Int32) (i12 : Int32) (i13 : Int32) (i14 : Int32) (i15 : Int32) (i16 : Int32), k68 ob i1 l3 l5 l7 i9 i10 i11 i12 i13 i14 i15 i16 = some res → Runs C B0 7 209 68 [vr sa, vi i1, vr C.2.2.1, vl l3, v2, vl l5, v2, vl l7, v2, vi i9, vi i10, vi i11, vi i12, vi i13, vi i14, vi i15, vi i16, vn, vn, vn, vn, vn, vn, vn, vn, vn, vn] [] (C.2.2.1 + 1 + 6, (C.2.2.1, 6, ob) :: []) (fun v _ => v = (some (.int res)))) (ob : Rec) (i1 : Int32) (l3 : Int64) (l5 : Int64) (l7 : Int64) (i9 : Int32) (i10 : Int32) (i11 : Int32) (i12 : Int32) (i13 : Int32) (i14 : Int32) (i15 : Int32) (i16 : Int32) (i17 : Int32) (i20 : Int32) (i21 : Int32) (i22 : Int32) (i23 : Int32) (t0 : Int32) (hf : L_law_b162 NF z f k68 ob i1 l3 l5 l7 i9 i10 i11 i12 i13 i14 i15 i16 i17 i20 i21 i22 i23 t0 = some res) : Runs C B0 7 209 162 [vr sa, vi i1, vr C.2.2.1, vl l3, v2, vl l5, v2, vl l7, v2, vi i9, vi i10, vi i11, vi i12, vi i13, vi i14, vi i15, vi i16, vi i17, vn, vn, vi i20, vi i21, vi i22, vi i23, vn, vn, vn] [.int t0] (C.2.2.1 + 1 + 6, (C.2.2.1, 6, ob) :: []) (fun v _ => v = (some (.int res))) := by
  delta L_law_b162 at hf
  refine Runs.istore (P' := [vr sa, vi i1, vr C.2.2.1, vl l3, v2, vl l5, v2, vl l7, v2, vi i9, vi i10, vi i11, vi i12, vi i13, vi i14, vi i15, vi i16, vi i17, vn, vn, vi i20, vi i21, vi i22, vi i23, vi t0, vn, vn]) d0_162 (by decide) rfl <| Runs.iload d0_164 rfl <| ?_
  refine ite_el hf (fun hc12 hf => ?_) (fun hc12 hf => ?_)
  · refine Runs.ifN d0_166 (teq hc12).2 <| ?_
    refine Runs.aloadN d0_169 rfl <| Runs.iload d0_170 rfl <| Runs.iload d0_172 rfl <| ?_
    refine bind2_el hf fun r13 q14 hg15 hf => ?_
    refine Runs.callV (N := B16) (W := 0) (as := [.int i20, .int i21]) (S' := []) d0_174 w104 w105 w106 w107 cw16 ar16 rk0_16_0 (by decide) rfl rfl (X_write_pay hg15) <| ans1 <| Runs.istore (P' := [vr sa, vi i1, vr C.2.2.1, vl l3, v2, vl l5, v2, vl l7, v2, vi i9, vi i10, vi i11, vi i12, vi i13, vi i14, vi i15, vi i16, vi i17, vn, vn, vi i20, vi i21, vi i22, vi i23, vi t0, vn, vi r13]) d0_177 (by decide) rfl <| Runs.iload d0_179 rfl <| ?_
    refine ite_el hf (fun hc16 hf => ?_) (fun hc16 hf => ?_)
    · refine Runs.ifY (pc' := 188) d0_181 (teq hc16).1 (by decide) <| ?_
      refine Runs.iload d0_188 rfl <| Runs.bipush d0_190 cb_12 <| ?_
      refine ite_el hf (fun hc17 hf => ?_) (fun hc17 hf => ?_)
      · refine Runs.icN d0_192 (tlt hc17).2.1 <| ?_
        refine Runs.iload d0_195 rfl <| ?_
        refine ite_el hf (fun hc18 hf => ?_) (fun hc18 hf => ?_)
        · refine Runs.ifN d0_197 (tlt hc18).2.1 <| ?_
          exact Runs.bipush d0_200 cb_m2 <| Runs.goto (pc' := 216) d0_202 (by decide) <| Runs.forget [true, true, true, true, true, true, true, true, true, true, true, true, true, true, true, true, true, false, false, false, true, true, false, false, false, false, true] rfl <| L_law_b216_p hs k68 hk68 q14 i1 l3 l5 l7 i9 i10 i11 i12 i13 i14 i15 i16 i20 i21 r13 (-2 : Int32) hf
        · refine Runs.ifY (pc' := 205) d0_197 (flt hc18).2.1 (by decide) <| ?_
          refine Runs.iload d0_205 rfl <| ?_
          refine ite_el hf (fun hc19 hf => ?_) (fun hc19 hf => ?_)
          · refine Runs.ifY (pc' := 215) d0_207 (teq hc19).1 (by decide) <| ?_
            exact Runs.iconst d0_215 ci_0 <| Runs.forget [true, true, true, true, true, true, true, true, true, true, true, true, true, true, true, true, true, false, false, false, true, true, false, false, false, false, true] rfl <| L_law_b216_p hs k68 hk68 q14 i1 l3 l5 l7 i9 i10 i11 i12 i13 i14 i15 i16 i20 i21 r13 (0 : Int32) hf
          · refine Runs.ifN d0_207 (feq hc19).1 <| ?_
            exact Runs.bipush d0_210 cb_m3 <| Runs.goto (pc' := 216) d0_212 (by decide) <| Runs.forget [true, true, true, true, true, true, true, true, true, true, true, true, true, true, true, true, true, false, false, false, true, true, false, false, false, false, true] rfl <| L_law_b216_p hs k68 hk68 q14 i1 l3 l5 l7 i9 i10 i11 i12 i13 i14 i15 i16 i20 i21 r13 (-3 : Int32) hf
      · refine Runs.icY (pc' := 200) d0_192 (flt hc17).2.1 (by decide) <| ?_
        exact Runs.bipush d0_200 cb_m2 <| Runs.goto (pc' := 216) d0_202 (by decide) <| Runs.forget [true, true, true, true, true, true, true, true, true, true, true, true, true, true, true, true, true, false, false, false, true, true, false, false, false, false, true] rfl <| L_law_b216_p hs k68 hk68 q14 i1 l3 l5 l7 i9 i10 i11 i12 i13 i14 i15 i16 i20 i21 r13 (-2 : Int32) hf
    · refine Runs.ifN d0_181 (feq hc16).1 <| ?_
      exact Runs.iconst d0_184 ci_m1 <| Runs.goto (pc' := 216) d0_185 (by decide) <| Runs.forget [true, true, true, true, true, true, true, true, true, true, true, true, true, true, true, true, true, false, false, false, true, true, false, false, false, false, true] rfl <| L_law_b216_p hs k68 hk68 q14 i1 l3 l5 l7 i9 i10 i11 i12 i13 i14 i15 i16 i20 i21 r13 (-1 : Int32) hf
  · refine Runs.ifY (pc' := 240) d0_166 (feq hc12).2 (by decide) <| ?_
    refine Runs.iload d0_240 rfl <| Runs.iconst d0_242 ci_1 <| ?_
    refine ite_el hf (fun hc20 hf => ?_) (fun hc20 hf => ?_)
    · refine Runs.icN d0_243 (teq hc20).2 <| ?_
      refine Runs.aloadN d0_246 rfl <| ?_
      refine bind2_el hf fun r21 q22 hg23 hf => ?_
      refine Runs.callV (N := B3) (W := 0) (as := []) (S' := []) d0_247 w44 w45 w46 w47 cw3 ar3 rk0_3_0 (by decide) rfl rfl (X_crash_pay hg23) <| ans1 <| Runs.istore (P' := [vr sa, vi i1, vr C.2.2.1, vl l3, v2, vl l5, v2, vl l7, v2, vi i9, vi i10, vi i11, vi i12, vi i13, vi i14, vi i15, vi i16, vi i17, vn, vn, vi i20, vi i21, vi i22, vi i23, vi t0, vn, vi r21]) d0_250 (by decide) rfl <| Runs.iload d0_252 rfl <| ?_
      refine ite_el hf (fun hc24 hf => ?_) (fun hc24 hf => ?_)
      · refine Runs.ifY (pc' := 261) d0_254 (teq hc24).1 (by decide) <| ?_
        exact Runs.iconst d0_261 ci_0 <| Runs.forget [true, true, true, true, true, true, true, true, true, true, true, true, true, true, true, true, true, false, false, false, false, false, false, false, false, false, true] rfl <| L_law_b262_p hs k68 hk68 q22 i1 l3 l5 l7 i9 i10 i11 i12 i13 i14 i15 i16 r21 (0 : Int32) hf
      · refine Runs.ifN d0_254 (feq hc24).1 <| ?_
        exact Runs.iconst d0_257 ci_m1 <| Runs.goto (pc' := 262) d0_258 (by decide) <| Runs.forget [true, true, true, true, true, true, true, true, true, true, true, true, true, true, true, true, true, false, false, false, false, false, false, false, false, false, true] rfl <| L_law_b262_p hs k68 hk68 q22 i1 l3 l5 l7 i9 i10 i11 i12 i13 i14 i15 i16 r21 (-1 : Int32) hf
    · refine Runs.icY (pc' := 278) d0_243 (feq hc20).2 (by decide) <| ?_
      refine Runs.iload d0_278 rfl <| Runs.iconst d0_280 ci_2 <| ?_
      refine ite_el hf (fun hc25 hf => ?_) (fun hc25 hf => ?_)
      · refine Runs.icN d0_281 (teq hc25).2 <| ?_
        refine Runs.aloadN d0_284 rfl <| ?_
        refine bind2_el hf fun r26 q27 hg28 hf => ?_
        refine Runs.callV (N := B18) (W := 0) (as := []) (S' := []) d0_285 w114 w115 w116 w117 cw18 ar18 rk0_18_0 (by decide) rfl rfl (X_restart_pay hg28) <| ans1 <| Runs.istore (P' := [vr sa, vi i1, vr C.2.2.1, vl l3, v2, vl l5, v2, vl l7, v2, vi i9, vi i10, vi i11, vi i12, vi i13, vi i14, vi i15, vi i16, vi i17, vn, vn, vi i20, vi i21, vi i22, vi i23, vi t0, vn, vi r26]) d0_288 (by decide) rfl <| Runs.iload d0_290 rfl <| ?_
        refine ite_el hf (fun hc29 hf => ?_) (fun hc29 hf => ?_)
        · refine Runs.ifY (pc' := 299) d0_292 (teq hc29).1 (by decide) <| ?_
          exact Runs.bipush d0_299 cb_m4 <| Runs.forget [true, true, true, true, true, true, true, true, true, true, true, true, true, true, true, true, true, false, false, false, false, false, false, false, false, false, true] rfl <| L_law_b301_p hs k68 hk68 q27 i1 l3 l5 l7 i9 i10 i11 i12 i13 i14 i15 i16 r26 (-4 : Int32) hf
        · refine Runs.ifN d0_292 (feq hc29).1 <| ?_
          exact Runs.iconst d0_295 ci_0 <| Runs.goto (pc' := 301) d0_296 (by decide) <| Runs.forget [true, true, true, true, true, true, true, true, true, true, true, true, true, true, true, true, true, false, false, false, false, false, false, false, false, false, true] rfl <| L_law_b301_p hs k68 hk68 q27 i1 l3 l5 l7 i9 i10 i11 i12 i13 i14 i15 i16 r26 (0 : Int32) hf
      · refine Runs.icY (pc' := 327) d0_281 (feq hc25).2 (by decide) <| ?_
        refine Runs.iload d0_327 rfl <| Runs.iconst d0_329 ci_3 <| ?_
        refine ite_el hf (fun hc30 hf => ?_) (fun hc30 hf => ?_)
        · refine Runs.icN d0_330 (teq hc30).2 <| ?_
          refine Runs.aloadN d0_333 rfl <| Runs.iload d0_334 rfl <| ?_
          refine bind2_el hf fun r31 q32 hg33 hf => ?_
          refine Runs.callV (N := B17) (W := 0) (as := [.int i22]) (S' := []) d0_336 w109 w110 w111 w112 cw17 ar17 rk0_17_0 (by decide) rfl rfl (X_failLeg_pay hg33) <| ans1 <| Runs.istore (P' := [vr sa, vi i1, vr C.2.2.1, vl l3, v2, vl l5, v2, vl l7, v2, vi i9, vi i10, vi i11, vi i12, vi i13, vi i14, vi i15, vi i16, vi i17, vn, vn, vi i20, vi i21, vi i22, vi i23, vi t0, vn, vi r31]) d0_339 (by decide) rfl <| Runs.iload d0_341 rfl <| ?_
          refine ite_el hf (fun hc34 hf => ?_) (fun hc34 hf => ?_)
          · refine Runs.ifY (pc' := 350) d0_343 (teq hc34).1 (by decide) <| ?_
            refine Runs.iload d0_350 rfl <| Runs.iconst d0_352 ci_1 <| ?_
            refine ite_el hf (fun hc35 hf => ?_) (fun hc35 hf => ?_)
            · refine Runs.icN d0_353 (tlt hc35).2.2.2 <| ?_
              exact Runs.bipush d0_356 cb_m2 <| Runs.goto (pc' := 378) d0_358 (by decide) <| Runs.forget [true, true, true, true, true, true, true, true, true, true, true, true, true, true, true, true, true, false, false, false, false, false, true, false, false, false, true] rfl <| L_law_b378_p hs k68 hk68 q32 i1 l3 l5 l7 i9 i10 i11 i12 i13 i14 i15 i16 i22 r31 (-2 : Int32) hf
            · refine Runs.icY (pc' := 361) d0_353 (flt hc35).2.2.2 (by decide) <| ?_
              refine Runs.iload d0_361 rfl <| Runs.iconst d0_363 ci_2 <| ?_
              refine ite_el hf (fun hc36 hf => ?_) (fun hc36 hf => ?_)
              · refine Runs.icY (pc' := 372) d0_364 (teq hc36).1 (by decide) <| ?_
                exact Runs.bipush d0_372 cb_m4 <| Runs.goto (pc' := 378) d0_374 (by decide) <| Runs.forget [true, true, true, true, true, true, true, true, true, true, true, true, true, true, true, true, true, false, false, false, false, false, true, false, false, false, true] rfl <| L_law_b378_p hs k68 hk68 q32 i1 l3 l5 l7 i9 i10 i11 i12 i13 i14 i15 i16 i22 r31 (-4 : Int32) hf
              · refine Runs.icN d0_364 (feq hc36).1 <| ?_
                refine Runs.iload d0_367 rfl <| ?_
                refine ite_el hf (fun hc37 hf => ?_) (fun hc37 hf => ?_)
                · refine Runs.ifY (pc' := 377) d0_369 (teq hc37).1 (by decide) <| ?_
                  exact Runs.iconst d0_377 ci_0 <| Runs.forget [true, true, true, true, true, true, true, true, true, true, true, true, true, true, true, true, true, false, false, false, false, false, true, false, false, false, true] rfl <| L_law_b378_p hs k68 hk68 q32 i1 l3 l5 l7 i9 i10 i11 i12 i13 i14 i15 i16 i22 r31 (0 : Int32) hf
                · refine Runs.ifN d0_369 (feq hc37).1 <| ?_
                  exact Runs.bipush d0_372 cb_m4 <| Runs.goto (pc' := 378) d0_374 (by decide) <| Runs.forget [true, true, true, true, true, true, true, true, true, true, true, true, true, true, true, true, true, false, false, false, false, false, true, false, false, false, true] rfl <| L_law_b378_p hs k68 hk68 q32 i1 l3 l5 l7 i9 i10 i11 i12 i13 i14 i15 i16 i22 r31 (-4 : Int32) hf
          · refine Runs.ifN d0_343 (feq hc34).1 <| ?_
            exact Runs.iconst d0_346 ci_m1 <| Runs.goto (pc' := 378) d0_347 (by decide) <| Runs.forget [true, true, true, true, true, true, true, true, true, true, true, true, true, true, true, true, true, false, false, false, false, false, true, false, false, false, true] rfl <| L_law_b378_p hs k68 hk68 q32 i1 l3 l5 l7 i9 i10 i11 i12 i13 i14 i15 i16 i22 r31 (-1 : Int32) hf
        · refine Runs.icY (pc' := 402) d0_330 (feq hc30).2 (by decide) <| ?_
          refine Runs.iload d0_402 rfl <| Runs.iconst d0_404 ci_4 <| ?_
          refine ite_el hf (fun hc38 hf => ?_) (fun hc38 hf => ?_)
          · exact Runs.icY (pc' := 414) d0_405 (teq hc38).1 (by decide) <| Runs.forget [true, true, true, true, true, true, true, true, true, true, true, true, true, true, true, true, true, true, false, false, false, false, true, true, false, false, false] rfl <| L_law_b414_p hs k68 hk68 ob i1 l3 l5 l7 i9 i10 i11 i12 i13 i14 i15 i16 i17 i22 i23 hf
          · refine Runs.icN d0_405 (feq hc38).1 <| ?_
            refine Runs.iload d0_408 rfl <| Runs.iconst d0_410 ci_5 <| ?_
            refine ite_el hf (fun hc39 hf => ?_) (fun hc39 hf => ?_)
            · exact Runs.icN d0_411 (teq hc39).2 <| Runs.forget [true, true, true, true, true, true, true, true, true, true, true, true, true, true, true, true, true, true, false, false, false, false, true, true, false, false, false] rfl <| L_law_b414_p hs k68 hk68 ob i1 l3 l5 l7 i9 i10 i11 i12 i13 i14 i15 i16 i17 i22 i23 hf
            · refine Runs.icY (pc' := 522) d0_411 (feq hc39).2 (by decide) <| ?_
              refine Runs.iload d0_522 rfl <| Runs.bipush d0_524 cb_6 <| ?_
              refine ite_el hf (fun hc40 hf => ?_) (fun hc40 hf => ?_)
              · refine Runs.icN d0_526 (teq hc40).2 <| ?_
                refine Runs.aloadN d0_529 rfl <| ?_
                refine bind2_el hf fun r41 q42 hg43 hf => ?_
                refine Runs.callV (N := B24) (W := 0) (as := []) (S' := []) d0_530 w142 w143 w144 w145 cw24 ar24 rk0_24_0 (by decide) rfl rfl (X_resync_pay hg43) <| ans1 <| Runs.istore (P' := [vr sa, vi i1, vr C.2.2.1, vl l3, v2, vl l5, v2, vl l7, v2, vi i9, vi i10, vi i11, vi i12, vi i13, vi i14, vi i15, vi i16, vi i17, vn, vn, vi i20, vi i21, vi i22, vi i23, vi t0, vn, vi r41]) d0_533 (by decide) rfl <| Runs.iload d0_535 rfl <| ?_
                refine ite_el hf (fun hc44 hf => ?_) (fun hc44 hf => ?_)
                · refine Runs.ifY (pc' := 544) d0_537 (teq hc44).1 (by decide) <| ?_
                  refine Runs.iload d0_544 rfl <| ?_
                  refine ite_el hf (fun hc45 hf => ?_) (fun hc45 hf => ?_)
                  · refine Runs.ifY (pc' := 554) d0_546 (teq hc45).1 (by decide) <| ?_
                    refine Runs.iload d0_554 rfl <| Runs.iconst d0_556 ci_1 <| ?_
                    refine ite_el hf (fun hc46 hf => ?_) (fun hc46 hf => ?_)
                    · refine Runs.icY (pc' := 571) d0_557 (teq hc46).1 (by decide) <| ?_
                      exact Runs.iconst d0_571 ci_0 <| Runs.forget [true, true, true, true, true, true, true, true, true, true, true, true, true, true, true, true, true, false, false, false, false, false, false, false, false, false, true] rfl <| L_law_b572_p hs k68 hk68 q42 i1 l3 l5 l7 i9 i10 i11 i12 i13 i14 i15 i16 r41 (0 : Int32) hf
                    · refine Runs.icN d0_557 (feq hc46).1 <| ?_
                      refine Runs.iload d0_560 rfl <| Runs.iconst d0_562 ci_1 <| ?_
                      refine ite_el hf (fun hc47 hf => ?_) (fun hc47 hf => ?_)
                      · refine Runs.icY (pc' := 571) d0_563 (teq hc47).1 (by decide) <| ?_
                        exact Runs.iconst d0_571 ci_0 <| Runs.forget [true, true, true, true, true, true, true, true, true, true, true, true, true, true, true, true, true, false, false, false, false, false, false, false, false, false, true] rfl <| L_law_b572_p hs k68 hk68 q42 i1 l3 l5 l7 i9 i10 i11 i12 i13 i14 i15 i16 r41 (0 : Int32) hf
                      · refine Runs.icN d0_563 (feq hc47).1 <| ?_
                        exact Runs.bipush d0_566 cb_m4 <| Runs.goto (pc' := 572) d0_568 (by decide) <| Runs.forget [true, true, true, true, true, true, true, true, true, true, true, true, true, true, true, true, true, false, false, false, false, false, false, false, false, false, true] rfl <| L_law_b572_p hs k68 hk68 q42 i1 l3 l5 l7 i9 i10 i11 i12 i13 i14 i15 i16 r41 (-4 : Int32) hf
                  · refine Runs.ifN d0_546 (feq hc45).1 <| ?_
                    exact Runs.bipush d0_549 cb_m3 <| Runs.goto (pc' := 572) d0_551 (by decide) <| Runs.forget [true, true, true, true, true, true, true, true, true, true, true, true, true, true, true, true, true, false, false, false, false, false, false, false, false, false, true] rfl <| L_law_b572_p hs k68 hk68 q42 i1 l3 l5 l7 i9 i10 i11 i12 i13 i14 i15 i16 r41 (-3 : Int32) hf
                · refine Runs.ifN d0_537 (feq hc44).1 <| ?_
                  exact Runs.iconst d0_540 ci_m1 <| Runs.goto (pc' := 572) d0_541 (by decide) <| Runs.forget [true, true, true, true, true, true, true, true, true, true, true, true, true, true, true, true, true, false, false, false, false, false, false, false, false, false, true] rfl <| L_law_b572_p hs k68 hk68 q42 i1 l3 l5 l7 i9 i10 i11 i12 i13 i14 i15 i16 r41 (-1 : Int32) hf
              · refine Runs.icY (pc' := 603) d0_526 (feq hc40).2 (by decide) <| ?_
                refine Runs.aloadN d0_603 rfl <| ?_
                refine bind2_el hf fun r48 q49 hg50 hf => ?_
                refine Runs.callV (N := B20) (W := 0) (as := []) (S' := []) d0_604 w124 w125 w126 w127 cw20 ar20 rk0_20_0 (by decide) rfl rfl (X_step_pay hg50) <| ans1 <| Runs.istore (P' := [vr sa, vi i1, vr C.2.2.1, vl l3, v2, vl l5, v2, vl l7, v2, vi i9, vi i10, vi i11, vi i12, vi i13, vi i14, vi i15, vi i16, vi i17, vn, vn, vi i20, vi i21, vi i22, vi i23, vi t0, vn, vi r48]) d0_607 (by decide) rfl <| Runs.iload d0_609 rfl <| ?_
                refine ite_el hf (fun hc51 hf => ?_) (fun hc51 hf => ?_)
                · refine Runs.ifY (pc' := 618) d0_611 (teq hc51).1 (by decide) <| ?_
                  refine Runs.iload d0_618 rfl <| ?_
                  refine ite_el hf (fun hc52 hf => ?_) (fun hc52 hf => ?_)
                  · refine Runs.ifN d0_620 (teq hc52).2 <| ?_
                    exact Runs.bipush d0_623 cb_m5 <| Runs.goto (pc' := 629) d0_625 (by decide) <| Runs.forget [true, true, true, true, true, true, true, true, true, true, true, true, true, true, true, true, true, false, false, false, false, false, false, false, false, false, true] rfl <| L_law_b629_p hs k68 hk68 q49 i1 l3 l5 l7 i9 i10 i11 i12 i13 i14 i15 i16 r48 (-5 : Int32) hf
                  · refine Runs.ifY (pc' := 628) d0_620 (feq hc52).2 (by decide) <| ?_
                    exact Runs.iconst d0_628 ci_0 <| Runs.forget [true, true, true, true, true, true, true, true, true, true, true, true, true, true, true, true, true, false, false, false, false, false, false, false, false, false, true] rfl <| L_law_b629_p hs k68 hk68 q49 i1 l3 l5 l7 i9 i10 i11 i12 i13 i14 i15 i16 r48 (0 : Int32) hf
                · refine Runs.ifN d0_611 (feq hc51).1 <| ?_
                  exact Runs.iconst d0_614 ci_m1 <| Runs.goto (pc' := 629) d0_615 (by decide) <| Runs.forget [true, true, true, true, true, true, true, true, true, true, true, true, true, true, true, true, true, false, false, false, false, false, false, false, false, false, true] rfl <| L_law_b629_p hs k68 hk68 q49 i1 l3 l5 l7 i9 i10 i11 i12 i13 i14 i15 i16 r48 (-1 : Int32) hf
def L_law_b148 (NF : Nat) (z : Int32) (f : Int32 → Int32) (k68 : Rec → Int32 → Int64 → Int64 → Int64 → Int32 → Int32 → Int32 → Int32 → Int32 → Int32 → Int32 → Int32 → Option (Int32)) (ob : Rec) (i1 : Int32) (l3 : Int64) (l5 : Int64) (l7 : Int64) (i9 : Int32) (i10 : Int32) (i11 : Int32) (i12 : Int32) (i13 : Int32) (i14 : Int32) (i15 : Int32) (i16 : Int32) (i17 : Int32) (i20 : Int32) (i21 : Int32) (i22 : Int32) (t0 : Int32) : Option (Int32) :=
  if i22 = (0 : Int32) then
    L_law_b162 NF z f k68 ob i1 l3 l5 l7 i9 i10 i11 i12 i13 i14 i15 i16 i17 i20 i21 i22 t0 i10
  else
    L_law_b162 NF z f k68 ob i1 l3 l5 l7 i9 i10 i11 i12 i13 i14 i15 i16 i17 i20 i21 i22 t0 i9
set_option maxRecDepth 65536 in
set_option maxHeartbeats 4000000 in
theorem L_law_b148_p {C : Ctx} {sa : Nat} {z : Int32} {f : Int32 → Int32} (hs : ScrF C sa z f) {res : Int32} {NF : Nat} (k68 : Rec → Int32 → Int64 → Int64 → Int64 → Int32 → Int32 → Int32 → Int32 → Int32 → Int32 → Int32 → Int32 → Option (Int32)) (hk68 : ∀ (ob : Rec) (i1 : Int32) (l3 : Int64) (l5 : Int64) (l7 : Int64) (i9 : Int32) (i10 : Int32) (i11 : Int32) (i12 : Int32) (i13 : Int32) (i14 : Int32) (i15 : Int32) (i16 : Int32), k68 ob i1 l3 l5 l7 i9 i10 i11 i12 i13 i14 i15 i16 = some res → Runs C B0 7 209 68 [vr sa, vi i1, vr C.2.2.1, vl l3, v2, vl l5, v2, vl l7, v2, vi i9, vi i10, vi i11, vi i12, vi i13, vi i14, vi i15, vi i16, vn, vn, vn, vn, vn, vn, vn, vn, vn, vn] [] (C.2.2.1 + 1 + 6, (C.2.2.1, 6, ob) :: []) (fun v _ => v = (some (.int res)))) (ob : Rec) (i1 : Int32) (l3 : Int64) (l5 : Int64) (l7 : Int64) (i9 : Int32) (i10 : Int32) (i11 : Int32) (i12 : Int32) (i13 : Int32) (i14 : Int32) (i15 : Int32) (i16 : Int32) (i17 : Int32) (i20 : Int32) (i21 : Int32) (i22 : Int32) (t0 : Int32) (hf : L_law_b148 NF z f k68 ob i1 l3 l5 l7 i9 i10 i11 i12 i13 i14 i15 i16 i17 i20 i21 i22 t0 = some res) : Runs C B0 7 209 148 [vr sa, vi i1, vr C.2.2.1, vl l3, v2, vl l5, v2, vl l7, v2, vi i9, vi i10, vi i11, vi i12, vi i13, vi i14, vi i15, vi i16, vi i17, vn, vn, vi i20, vi i21, vi i22, vn, vn, vn, vn] [.int t0] (C.2.2.1 + 1 + 6, (C.2.2.1, 6, ob) :: []) (fun v _ => v = (some (.int res))) := by
  delta L_law_b148 at hf
  refine Runs.istore (P' := [vr sa, vi i1, vr C.2.2.1, vl l3, v2, vl l5, v2, vl l7, v2, vi i9, vi i10, vi i11, vi i12, vi i13, vi i14, vi i15, vi i16, vi i17, vn, vn, vi i20, vi i21, vi i22, vi t0, vn, vn, vn]) d0_148 (by decide) rfl <| Runs.iload d0_150 rfl <| ?_
  refine ite_el hf (fun hc11 hf => ?_) (fun hc11 hf => ?_)
  · refine Runs.ifN d0_152 (teq hc11).2 <| ?_
    exact Runs.iload d0_155 rfl <| Runs.goto (pc' := 162) d0_157 (by decide) <| L_law_b162_p hs k68 hk68 ob i1 l3 l5 l7 i9 i10 i11 i12 i13 i14 i15 i16 i17 i20 i21 i22 t0 i10 hf
  · refine Runs.ifY (pc' := 160) d0_152 (feq hc11).2 (by decide) <| ?_
    exact Runs.iload d0_160 rfl <| L_law_b162_p hs k68 hk68 ob i1 l3 l5 l7 i9 i10 i11 i12 i13 i14 i15 i16 i17 i20 i21 i22 t0 i9 hf
def L_law_b136 (NF : Nat) (z : Int32) (f : Int32 → Int32) (k68 : Rec → Int32 → Int64 → Int64 → Int64 → Int32 → Int32 → Int32 → Int32 → Int32 → Int32 → Int32 → Int32 → Option (Int32)) (ob : Rec) (i1 : Int32) (l3 : Int64) (l5 : Int64) (l7 : Int64) (i9 : Int32) (i10 : Int32) (i11 : Int32) (i12 : Int32) (i13 : Int32) (i14 : Int32) (i15 : Int32) (i16 : Int32) (i17 : Int32) (i20 : Int32) (i21 : Int32) (i22 : Int32) : Option (Int32) :=
  if i22 = (0 : Int32) then
    L_law_b148 NF z f k68 ob i1 l3 l5 l7 i9 i10 i11 i12 i13 i14 i15 i16 i17 i20 i21 i22 i9
  else
    L_law_b148 NF z f k68 ob i1 l3 l5 l7 i9 i10 i11 i12 i13 i14 i15 i16 i17 i20 i21 i22 i10
set_option maxRecDepth 65536 in
set_option maxHeartbeats 4000000 in
theorem L_law_b136_p {C : Ctx} {sa : Nat} {z : Int32} {f : Int32 → Int32} (hs : ScrF C sa z f) {res : Int32} {NF : Nat} (k68 : Rec → Int32 → Int64 → Int64 → Int64 → Int32 → Int32 → Int32 → Int32 → Int32 → Int32 → Int32 → Int32 → Option (Int32)) (hk68 : ∀ (ob : Rec) (i1 : Int32) (l3 : Int64) (l5 : Int64) (l7 : Int64) (i9 : Int32) (i10 : Int32) (i11 : Int32) (i12 : Int32) (i13 : Int32) (i14 : Int32) (i15 : Int32) (i16 : Int32), k68 ob i1 l3 l5 l7 i9 i10 i11 i12 i13 i14 i15 i16 = some res → Runs C B0 7 209 68 [vr sa, vi i1, vr C.2.2.1, vl l3, v2, vl l5, v2, vl l7, v2, vi i9, vi i10, vi i11, vi i12, vi i13, vi i14, vi i15, vi i16, vn, vn, vn, vn, vn, vn, vn, vn, vn, vn] [] (C.2.2.1 + 1 + 6, (C.2.2.1, 6, ob) :: []) (fun v _ => v = (some (.int res)))) (ob : Rec) (i1 : Int32) (l3 : Int64) (l5 : Int64) (l7 : Int64) (i9 : Int32) (i10 : Int32) (i11 : Int32) (i12 : Int32) (i13 : Int32) (i14 : Int32) (i15 : Int32) (i16 : Int32) (i17 : Int32) (i20 : Int32) (i21 : Int32) (i22 : Int32) (hf : L_law_b136 NF z f k68 ob i1 l3 l5 l7 i9 i10 i11 i12 i13 i14 i15 i16 i17 i20 i21 i22 = some res) : Runs C B0 7 209 136 [vr sa, vi i1, vr C.2.2.1, vl l3, v2, vl l5, v2, vl l7, v2, vi i9, vi i10, vi i11, vi i12, vi i13, vi i14, vi i15, vi i16, vi i17, vn, vn, vi i20, vi i21, vi i22, vn, vn, vn, vn] [] (C.2.2.1 + 1 + 6, (C.2.2.1, 6, ob) :: []) (fun v _ => v = (some (.int res))) := by
  delta L_law_b136 at hf
  refine Runs.iload d0_136 rfl <| ?_
  refine ite_el hf (fun hc10 hf => ?_) (fun hc10 hf => ?_)
  · refine Runs.ifN d0_138 (teq hc10).2 <| ?_
    exact Runs.iload d0_141 rfl <| Runs.goto (pc' := 148) d0_143 (by decide) <| L_law_b148_p hs k68 hk68 ob i1 l3 l5 l7 i9 i10 i11 i12 i13 i14 i15 i16 i17 i20 i21 i22 i9 hf
  · refine Runs.ifY (pc' := 146) d0_138 (feq hc10).2 (by decide) <| ?_
    exact Runs.iload d0_146 rfl <| L_law_b148_p hs k68 hk68 ob i1 l3 l5 l7 i9 i10 i11 i12 i13 i14 i15 i16 i17 i20 i21 i22 i10 hf
def L_law_w68 (NF : Nat) (z : Int32) (f : Int32 → Int32) (k68 : Rec → Int32 → Int64 → Int64 → Int64 → Int32 → Int32 → Int32 → Int32 → Int32 → Int32 → Int32 → Int32 → Option (Int32)) (ob : Rec) (i1 : Int32) (l3 : Int64) (l5 : Int64) (l7 : Int64) (i9 : Int32) (i10 : Int32) (i11 : Int32) (i12 : Int32) (i13 : Int32) (i14 : Int32) (i15 : Int32) (i16 : Int32) : Option (Int32) :=
  if (i16 + (2 : Int32)) < i1 then
    chk z i16 <|
    chk z (i16 + (1 : Int32)) <|
    chk z (i16 + (2 : Int32)) <|
    if ((f (i16 + (1 : Int32))) &&& (7 : Int32)) < (3 : Int32) then
      L_law_b136 NF z f k68 ob i1 l3 l5 l7 i9 i10 i11 i12 i13 i14 i15 i16 ((f i16) &&& (15 : Int32)) ((f (i16 + (1 : Int32))) &&& (15 : Int32)) (((f (i16 + (2 : Int32))) &&& (31 : Int32)) - (1 : Int32)) ((f (i16 + (1 : Int32))) &&& (7 : Int32))
    else
      L_law_b136 NF z f k68 ob i1 l3 l5 l7 i9 i10 i11 i12 i13 i14 i15 i16 ((f i16) &&& (15 : Int32)) ((f (i16 + (1 : Int32))) &&& (15 : Int32)) (((f (i16 + (2 : Int32))) &&& (31 : Int32)) - (1 : Int32)) (((f (i16 + (1 : Int32))) &&& (7 : Int32)) &&& (1 : Int32))
  else
    some (1 : Int32)
def L_law_l68 (NF : Nat) (z : Int32) (f : Int32 → Int32) : Nat → Rec → Int32 → Int64 → Int64 → Int64 → Int32 → Int32 → Int32 → Int32 → Int32 → Int32 → Int32 → Int32 → Option (Int32)
  | 0, _, _, _, _, _, _, _, _, _, _, _, _, _ => none
  | n + 1, ob, i1, l3, l5, l7, i9, i10, i11, i12, i13, i14, i15, i16 => L_law_w68 NF z f (L_law_l68 NF z f n) ob i1 l3 l5 l7 i9 i10 i11 i12 i13 i14 i15 i16
set_option maxRecDepth 65536 in
set_option maxHeartbeats 4000000 in
theorem L_law_w68_p {C : Ctx} {sa : Nat} {z : Int32} {f : Int32 → Int32} (hs : ScrF C sa z f) {res : Int32} {NF : Nat} (k68 : Rec → Int32 → Int64 → Int64 → Int64 → Int32 → Int32 → Int32 → Int32 → Int32 → Int32 → Int32 → Int32 → Option (Int32)) (hk68 : ∀ (ob : Rec) (i1 : Int32) (l3 : Int64) (l5 : Int64) (l7 : Int64) (i9 : Int32) (i10 : Int32) (i11 : Int32) (i12 : Int32) (i13 : Int32) (i14 : Int32) (i15 : Int32) (i16 : Int32), k68 ob i1 l3 l5 l7 i9 i10 i11 i12 i13 i14 i15 i16 = some res → Runs C B0 7 209 68 [vr sa, vi i1, vr C.2.2.1, vl l3, v2, vl l5, v2, vl l7, v2, vi i9, vi i10, vi i11, vi i12, vi i13, vi i14, vi i15, vi i16, vn, vn, vn, vn, vn, vn, vn, vn, vn, vn] [] (C.2.2.1 + 1 + 6, (C.2.2.1, 6, ob) :: []) (fun v _ => v = (some (.int res)))) (ob : Rec) (i1 : Int32) (l3 : Int64) (l5 : Int64) (l7 : Int64) (i9 : Int32) (i10 : Int32) (i11 : Int32) (i12 : Int32) (i13 : Int32) (i14 : Int32) (i15 : Int32) (i16 : Int32) (hf : L_law_w68 NF z f k68 ob i1 l3 l5 l7 i9 i10 i11 i12 i13 i14 i15 i16 = some res) : Runs C B0 7 209 68 [vr sa, vi i1, vr C.2.2.1, vl l3, v2, vl l5, v2, vl l7, v2, vi i9, vi i10, vi i11, vi i12, vi i13, vi i14, vi i15, vi i16, vn, vn, vn, vn, vn, vn, vn, vn, vn, vn] [] (C.2.2.1 + 1 + 6, (C.2.2.1, 6, ob) :: []) (fun v _ => v = (some (.int res))) := by
  delta L_law_w68 at hf
  refine Runs.iload d0_68 rfl <| Runs.iconst d0_70 ci_2 <| Runs.iadd d0_71 <| Runs.iloadN d0_72 rfl <| ?_
  refine ite_el hf (fun hc5 hf => ?_) (fun hc5 hf => ?_)
  · refine Runs.icN d0_73 (tlt hc5).2.1 <| ?_
    refine Runs.aloadN d0_76 rfl <| Runs.iload d0_77 rfl <| ?_
    refine chk_el hf fun hi6 hf => ?_
    refine Runs.ialoadS hs d0_79 hi6 <| Runs.bipush d0_80 cb_15 <| Runs.iand d0_82 <| Runs.istore (P' := [vr sa, vi i1, vr C.2.2.1, vl l3, v2, vl l5, v2, vl l7, v2, vi i9, vi i10, vi i11, vi i12, vi i13, vi i14, vi i15, vi i16, vi ((f i16) &&& (15 : Int32)), vn, vn, vn, vn, vn, vn, vn, vn, vn]) d0_83 (by decide) rfl <| Runs.aloadN d0_85 rfl <| Runs.iload d0_86 rfl <| Runs.iconst d0_88 ci_1 <| Runs.iadd d0_89 <| ?_
    refine chk_el hf fun hi7 hf => ?_
    refine Runs.ialoadS hs d0_90 hi7 <| Runs.istore (P' := [vr sa, vi i1, vr C.2.2.1, vl l3, v2, vl l5, v2, vl l7, v2, vi i9, vi i10, vi i11, vi i12, vi i13, vi i14, vi i15, vi i16, vi ((f i16) &&& (15 : Int32)), vi (f (i16 + (1 : Int32))), vn, vn, vn, vn, vn, vn, vn, vn]) d0_91 (by decide) rfl <| Runs.aloadN d0_93 rfl <| Runs.iload d0_94 rfl <| Runs.iconst d0_96 ci_2 <| Runs.iadd d0_97 <| ?_
    refine chk_el hf fun hi8 hf => ?_
    refine Runs.ialoadS hs d0_98 hi8 <| Runs.istore (P' := [vr sa, vi i1, vr C.2.2.1, vl l3, v2, vl l5, v2, vl l7, v2, vi i9, vi i10, vi i11, vi i12, vi i13, vi i14, vi i15, vi i16, vi ((f i16) &&& (15 : Int32)), vi (f (i16 + (1 : Int32))), vi (f (i16 + (2 : Int32))), vn, vn, vn, vn, vn, vn, vn]) d0_99 (by decide) rfl <| Runs.iload d0_101 rfl <| Runs.bipush d0_103 cb_15 <| Runs.iand d0_105 <| Runs.istore (P' := [vr sa, vi i1, vr C.2.2.1, vl l3, v2, vl l5, v2, vl l7, v2, vi i9, vi i10, vi i11, vi i12, vi i13, vi i14, vi i15, vi i16, vi ((f i16) &&& (15 : Int32)), vi (f (i16 + (1 : Int32))), vi (f (i16 + (2 : Int32))), vi ((f (i16 + (1 : Int32))) &&& (15 : Int32)), vn, vn, vn, vn, vn, vn]) d0_106 (by decide) rfl <| Runs.iload d0_108 rfl <| Runs.bipush d0_110 cb_31 <| Runs.iand d0_112 <| Runs.iconst d0_113 ci_1 <| Runs.isub d0_114 <| Runs.istore (P' := [vr sa, vi i1, vr C.2.2.1, vl l3, v2, vl l5, v2, vl l7, v2, vi i9, vi i10, vi i11, vi i12, vi i13, vi i14, vi i15, vi i16, vi ((f i16) &&& (15 : Int32)), vi (f (i16 + (1 : Int32))), vi (f (i16 + (2 : Int32))), vi ((f (i16 + (1 : Int32))) &&& (15 : Int32)), vi (((f (i16 + (2 : Int32))) &&& (31 : Int32)) - (1 : Int32)), vn, vn, vn, vn, vn]) d0_115 (by decide) rfl <| ?_
    refine Runs.iload d0_117 rfl <| Runs.bipush d0_119 cb_7 <| Runs.iand d0_121 <| Runs.istore (P' := [vr sa, vi i1, vr C.2.2.1, vl l3, v2, vl l5, v2, vl l7, v2, vi i9, vi i10, vi i11, vi i12, vi i13, vi i14, vi i15, vi i16, vi ((f i16) &&& (15 : Int32)), vi (f (i16 + (1 : Int32))), vi (f (i16 + (2 : Int32))), vi ((f (i16 + (1 : Int32))) &&& (15 : Int32)), vi (((f (i16 + (2 : Int32))) &&& (31 : Int32)) - (1 : Int32)), vi ((f (i16 + (1 : Int32))) &&& (7 : Int32)), vn, vn, vn, vn]) d0_122 (by decide) rfl <| Runs.iload d0_124 rfl <| Runs.iconst d0_126 ci_3 <| ?_
    refine ite_el hf (fun hc9 hf => ?_) (fun hc9 hf => ?_)
    · exact Runs.icY (pc' := 136) d0_127 (tlt hc9).1 (by decide) <| Runs.forget [true, true, true, true, true, true, true, true, true, true, true, true, true, true, true, true, true, true, false, false, true, true, true, false, false, false, false] rfl <| L_law_b136_p hs k68 hk68 ob i1 l3 l5 l7 i9 i10 i11 i12 i13 i14 i15 i16 ((f i16) &&& (15 : Int32)) ((f (i16 + (1 : Int32))) &&& (15 : Int32)) (((f (i16 + (2 : Int32))) &&& (31 : Int32)) - (1 : Int32)) ((f (i16 + (1 : Int32))) &&& (7 : Int32)) hf
    · refine Runs.icN d0_127 (flt hc9).1 <| ?_
      exact Runs.iload d0_130 rfl <| Runs.iconst d0_132 ci_1 <| Runs.iand d0_133 <| Runs.istore (P' := [vr sa, vi i1, vr C.2.2.1, vl l3, v2, vl l5, v2, vl l7, v2, vi i9, vi i10, vi i11, vi i12, vi i13, vi i14, vi i15, vi i16, vi ((f i16) &&& (15 : Int32)), vi (f (i16 + (1 : Int32))), vi (f (i16 + (2 : Int32))), vi ((f (i16 + (1 : Int32))) &&& (15 : Int32)), vi (((f (i16 + (2 : Int32))) &&& (31 : Int32)) - (1 : Int32)), vi (((f (i16 + (1 : Int32))) &&& (7 : Int32)) &&& (1 : Int32)), vn, vn, vn, vn]) d0_134 (by decide) rfl <| Runs.forget [true, true, true, true, true, true, true, true, true, true, true, true, true, true, true, true, true, true, false, false, true, true, true, false, false, false, false] rfl <| L_law_b136_p hs k68 hk68 ob i1 l3 l5 l7 i9 i10 i11 i12 i13 i14 i15 i16 ((f i16) &&& (15 : Int32)) ((f (i16 + (1 : Int32))) &&& (15 : Int32)) (((f (i16 + (2 : Int32))) &&& (31 : Int32)) - (1 : Int32)) (((f (i16 + (1 : Int32))) &&& (7 : Int32)) &&& (1 : Int32)) hf
  · refine Runs.icY (pc' := 777) d0_73 (flt hc5).2.1 (by decide) <| ?_
    obtain rfl := Option.some.inj hf
    exact Runs.iconst d0_777 ci_1 <| Runs.retZ (y := (1 : Int32)) d0_778 rfl ⟨by decide, by decide⟩ rfl rfl
theorem L_law_l68_p {C : Ctx} {sa : Nat} {z : Int32} {f : Int32 → Int32} (hs : ScrF C sa z f) {res : Int32} {NF : Nat} (n : Nat) (ob : Rec) (i1 : Int32) (l3 : Int64) (l5 : Int64) (l7 : Int64) (i9 : Int32) (i10 : Int32) (i11 : Int32) (i12 : Int32) (i13 : Int32) (i14 : Int32) (i15 : Int32) (i16 : Int32) (hf : L_law_l68 NF z f n ob i1 l3 l5 l7 i9 i10 i11 i12 i13 i14 i15 i16 = some res) : Runs C B0 7 209 68 [vr sa, vi i1, vr C.2.2.1, vl l3, v2, vl l5, v2, vl l7, v2, vi i9, vi i10, vi i11, vi i12, vi i13, vi i14, vi i15, vi i16, vn, vn, vn, vn, vn, vn, vn, vn, vn, vn] [] (C.2.2.1 + 1 + 6, (C.2.2.1, 6, ob) :: []) (fun v _ => v = (some (.int res))) := by
  induction n generalizing ob i1 l3 l5 l7 i9 i10 i11 i12 i13 i14 i15 i16 with
  | zero => cases (show (none : Option (Int32)) = some res from hf)
  | succ n ih => exact L_law_w68_p hs (L_law_l68 NF z f n) (fun ob i1 l3 l5 l7 i9 i10 i11 i12 i13 i14 i15 i16 h => ih _ _ _ _ _ _ _ _ _ _ _ _ _ h) ob i1 l3 l5 l7 i9 i10 i11 i12 i13 i14 i15 i16 hf
def L_law_b32 (NF : Nat) (z : Int32) (f : Int32 → Int32) (i1 : Int32) (t2 : Int32) (t3 : Int32) (t4 : Int32) : Option (Int32) :=
  (X_init t2 t3 t4).bind fun q3 =>
  L_law_l68 NF z f NF q3 i1 (0 : Int64) (0 : Int64) (0 : Int64) (0 : Int32) (0 : Int32) (0 : Int32) (0 : Int32) (0 : Int32) (0 : Int32) (0 : Int32) (2 : Int32)
set_option maxRecDepth 65536 in
set_option maxHeartbeats 4000000 in
theorem L_law_b32_p {C : Ctx} {sa : Nat} {z : Int32} {f : Int32 → Int32} (hs : ScrF C sa z f) {res : Int32} {NF : Nat} (i1 : Int32) (t2 : Int32) (t3 : Int32) (t4 : Int32) (hf : L_law_b32 NF z f i1 t2 t3 t4 = some res) : Runs C B0 1 15 32 [vr sa, vi i1, vn, vn, vn, vn, vn, vn, vn, vn, vn, vn, vn, vn, vn, vn, vn, vn, vn, vn, vn, vn, vn, vn, vn, vn, vn] [.int t4, .int t3, .int t2, .ref C.2.2.1, .ref C.2.2.1] (C.2.2.1 + 1, (C.2.2.1, 0, zrec) :: []) (fun v _ => v = (some (.int res))) := by
  delta L_law_b32 at hf
  refine bind_el hf fun q3 hg4 hf => ?_
  refine Runs.callI (N := B1) (k' := 7) (n' := 209) (W := 1) (as := [.int t2, .int t3, .int t4]) (S' := [.ref C.2.2.1]) d0_32 rfl rfl w3 w4 cw1 ar1 (by decide) rfl rfl rfl rfl (X_init_pay hg4) <| ans0 <| Runs.astoreN (P' := [vr sa, vi i1, vr C.2.2.1, vn, vn, vn, vn, vn, vn, vn, vn, vn, vn, vn, vn, vn, vn, vn, vn, vn, vn, vn, vn, vn, vn, vn, vn]) d0_35 (by decide) rfl <| Runs.lconst d0_36 cl_0 <| Runs.lstoreN (P' := [vr sa, vi i1, vr C.2.2.1, vl (0 : Int64), v2, vn, vn, vn, vn, vn, vn, vn, vn, vn, vn, vn, vn, vn, vn, vn, vn, vn, vn, vn, vn, vn, vn]) d0_37 (by decide) rfl <| Runs.lconst d0_38 cl_0 <| Runs.lstore (P' := [vr sa, vi i1, vr C.2.2.1, vl (0 : Int64), v2, vl (0 : Int64), v2, vn, vn, vn, vn, vn, vn, vn, vn, vn, vn, vn, vn, vn, vn, vn, vn, vn, vn, vn, vn]) d0_39 (by decide) rfl <| Runs.lconst d0_41 cl_0 <| Runs.lstore (P' := [vr sa, vi i1, vr C.2.2.1, vl (0 : Int64), v2, vl (0 : Int64), v2, vl (0 : Int64), v2, vn, vn, vn, vn, vn, vn, vn, vn, vn, vn, vn, vn, vn, vn, vn, vn, vn, vn]) d0_42 (by decide) rfl <| Runs.iconst d0_44 ci_0 <| Runs.istore (P' := [vr sa, vi i1, vr C.2.2.1, vl (0 : Int64), v2, vl (0 : Int64), v2, vl (0 : Int64), v2, vi (0 : Int32), vn, vn, vn, vn, vn, vn, vn, vn, vn, vn, vn, vn, vn, vn, vn, vn, vn]) d0_45 (by decide) rfl <| Runs.iconst d0_47 ci_0 <| Runs.istore (P' := [vr sa, vi i1, vr C.2.2.1, vl (0 : Int64), v2, vl (0 : Int64), v2, vl (0 : Int64), v2, vi (0 : Int32), vi (0 : Int32), vn, vn, vn, vn, vn, vn, vn, vn, vn, vn, vn, vn, vn, vn, vn, vn]) d0_48 (by decide) rfl <| ?_
  refine Runs.iconst d0_50 ci_0 <| Runs.istore (P' := [vr sa, vi i1, vr C.2.2.1, vl (0 : Int64), v2, vl (0 : Int64), v2, vl (0 : Int64), v2, vi (0 : Int32), vi (0 : Int32), vi (0 : Int32), vn, vn, vn, vn, vn, vn, vn, vn, vn, vn, vn, vn, vn, vn, vn]) d0_51 (by decide) rfl <| Runs.iconst d0_53 ci_0 <| Runs.istore (P' := [vr sa, vi i1, vr C.2.2.1, vl (0 : Int64), v2, vl (0 : Int64), v2, vl (0 : Int64), v2, vi (0 : Int32), vi (0 : Int32), vi (0 : Int32), vi (0 : Int32), vn, vn, vn, vn, vn, vn, vn, vn, vn, vn, vn, vn, vn, vn]) d0_54 (by decide) rfl <| Runs.iconst d0_56 ci_0 <| Runs.istore (P' := [vr sa, vi i1, vr C.2.2.1, vl (0 : Int64), v2, vl (0 : Int64), v2, vl (0 : Int64), v2, vi (0 : Int32), vi (0 : Int32), vi (0 : Int32), vi (0 : Int32), vi (0 : Int32), vn, vn, vn, vn, vn, vn, vn, vn, vn, vn, vn, vn, vn]) d0_57 (by decide) rfl <| Runs.iconst d0_59 ci_0 <| Runs.istore (P' := [vr sa, vi i1, vr C.2.2.1, vl (0 : Int64), v2, vl (0 : Int64), v2, vl (0 : Int64), v2, vi (0 : Int32), vi (0 : Int32), vi (0 : Int32), vi (0 : Int32), vi (0 : Int32), vi (0 : Int32), vn, vn, vn, vn, vn, vn, vn, vn, vn, vn, vn, vn]) d0_60 (by decide) rfl <| Runs.iconst d0_62 ci_0 <| Runs.istore (P' := [vr sa, vi i1, vr C.2.2.1, vl (0 : Int64), v2, vl (0 : Int64), v2, vl (0 : Int64), v2, vi (0 : Int32), vi (0 : Int32), vi (0 : Int32), vi (0 : Int32), vi (0 : Int32), vi (0 : Int32), vi (0 : Int32), vn, vn, vn, vn, vn, vn, vn, vn, vn, vn, vn]) d0_63 (by decide) rfl <| Runs.iconst d0_65 ci_2 <| Runs.istore (P' := [vr sa, vi i1, vr C.2.2.1, vl (0 : Int64), v2, vl (0 : Int64), v2, vl (0 : Int64), v2, vi (0 : Int32), vi (0 : Int32), vi (0 : Int32), vi (0 : Int32), vi (0 : Int32), vi (0 : Int32), vi (0 : Int32), vi (2 : Int32), vn, vn, vn, vn, vn, vn, vn, vn, vn, vn]) d0_66 (by decide) rfl <| ?_
  exact L_law_l68_p hs NF q3 i1 (0 : Int64) (0 : Int64) (0 : Int64) (0 : Int32) (0 : Int32) (0 : Int32) (0 : Int32) (0 : Int32) (0 : Int32) (0 : Int32) (2 : Int32) hf
def L_law_b20 (NF : Nat) (z : Int32) (f : Int32 → Int32) (i1 : Int32) (t2 : Int32) (t3 : Int32) : Option (Int32) :=
  if (1 : Int32) < i1 then
    chk z (1 : Int32) <|
    L_law_b32 NF z f i1 t2 t3 (f (1 : Int32))
  else
    L_law_b32 NF z f i1 t2 t3 (0 : Int32)
set_option maxRecDepth 65536 in
set_option maxHeartbeats 4000000 in
theorem L_law_b20_p {C : Ctx} {sa : Nat} {z : Int32} {f : Int32 → Int32} (hs : ScrF C sa z f) {res : Int32} {NF : Nat} (i1 : Int32) (t2 : Int32) (t3 : Int32) (hf : L_law_b20 NF z f i1 t2 t3 = some res) : Runs C B0 1 15 20 [vr sa, vi i1, vn, vn, vn, vn, vn, vn, vn, vn, vn, vn, vn, vn, vn, vn, vn, vn, vn, vn, vn, vn, vn, vn, vn, vn, vn] [.int t3, .int t2, .ref C.2.2.1, .ref C.2.2.1] (C.2.2.1 + 1, (C.2.2.1, 0, zrec) :: []) (fun v _ => v = (some (.int res))) := by
  delta L_law_b20 at hf
  refine Runs.iloadN d0_20 rfl <| Runs.iconst d0_21 ci_1 <| ?_
  refine ite_el hf (fun hc1 hf => ?_) (fun hc1 hf => ?_)
  · refine Runs.icN d0_22 (tlt hc1).2.2.2 <| ?_
    refine Runs.aloadN d0_25 rfl <| Runs.iconst d0_26 ci_1 <| ?_
    refine chk_el hf fun hi2 hf => ?_
    exact Runs.ialoadS hs d0_27 hi2 <| Runs.goto (pc' := 32) d0_28 (by decide) <| L_law_b32_p hs i1 t2 t3 (f (1 : Int32)) hf
  · refine Runs.icY (pc' := 31) d0_22 (flt hc1).2.2.2 (by decide) <| ?_
    exact Runs.iconst d0_31 ci_0 <| L_law_b32_p hs i1 t2 t3 (0 : Int32) hf
def L_law (NF : Nat) (z : Int32) (f : Int32 → Int32) : Option (Int32) :=
  if (0 : Int32) < z then
    chk z (0 : Int32) <|
    L_law_b20 NF z f z (12 : Int32) (f (0 : Int32))
  else
    L_law_b20 NF z f z (12 : Int32) (1 : Int32)
set_option maxRecDepth 65536 in
set_option maxHeartbeats 4000000 in
theorem L_law_p {C : Ctx} {sa : Nat} {z : Int32} {f : Int32 → Int32} (hs : ScrF C sa z f) {res : Int32} {NF : Nat} (hf : L_law NF z f = some res) : Runs C B0 0 0 0 [vr sa, vn, vn, vn, vn, vn, vn, vn, vn, vn, vn, vn, vn, vn, vn, vn, vn, vn, vn, vn, vn, vn, vn, vn, vn, vn, vn] [] (C.2.2.1, []) (fun v _ => v = (some (.int res))) := by
  delta L_law at hf
  refine Runs.aloadN d0_0 rfl <| Runs.lenS hs d0_1 <| Runs.istoreN (P' := [vr sa, vi z, vn, vn, vn, vn, vn, vn, vn, vn, vn, vn, vn, vn, vn, vn, vn, vn, vn, vn, vn, vn, vn, vn, vn, vn, vn]) d0_2 (by decide) rfl <| Runs.newK (k' := 1) (n' := 15) d0_3 w0 ⟨by decide, by decide⟩ rfl rfl (by intro x hx; cases hx) <| Runs.dup d0_6 rfl <| Runs.bipush d0_7 cb_12 <| Runs.iloadN d0_9 rfl <| ?_
  refine ite_el hf (fun hc95 hf => ?_) (fun hc95 hf => ?_)
  · refine Runs.ifN d0_10 (tlt hc95).2.2.2 <| ?_
    refine Runs.aloadN d0_13 rfl <| Runs.iconst d0_14 ci_0 <| ?_
    refine chk_el hf fun hi96 hf => ?_
    exact Runs.ialoadS hs d0_15 hi96 <| Runs.goto (pc' := 20) d0_16 (by decide) <| L_law_b20_p hs z (12 : Int32) (f (0 : Int32)) hf
  · refine Runs.ifY (pc' := 19) d0_10 (flt hc95).2.2.2 (by decide) <| ?_
    exact Runs.iconst d0_19 ci_1 <| L_law_b20_p hs z (12 : Int32) (1 : Int32) hf
theorem L_law_pay {C : Ctx} {sa : Nat} {z : Int32} {f : Int32 → Int32} (hs : ScrF C sa z f) {res : Int32} {NF : Nat} (hf : L_law NF z f = some res) : Pays C B0 [.ref sa] (C.2.2.1, []) (fun v _ => v = (some (.int res))) :=
  Pays.of pnL (Nat.le_of_ble_eq_true rfl) (P := [vr sa, vn, vn, vn, vn, vn, vn, vn, vn, vn, vn, vn, vn, vn, vn, vn, vn, vn, vn, vn, vn, vn, vn, vn, vn, vn, vn]) 26 rfl (L_law_p hs hf)
--OWED--
theorem gI_sI (ob : Rec) (k j : Nat) (v : Int32) : gI (sI ob k v) j = if j = k then v else gI ob j := rfl
theorem gI_sA (ob : Rec) (k j : Nat) (i v : Int32) : gI (sA ob k i v) j = gI ob j := rfl
theorem gI_sJ (ob : Rec) (k j : Nat) (i : Int32) (v : Int64) : gI (sJ ob k i v) j = gI ob j := rfl
theorem gA_sI (ob : Rec) (k j : Nat) (v x : Int32) : gA (sI ob k v) j x = gA ob j x := rfl
theorem gA_sA (ob : Rec) (k j : Nat) (i v x : Int32) : gA (sA ob k i v) j x = if j = k ∧ x = i then v else gA ob j x := rfl
theorem gA_sJ (ob : Rec) (k j : Nat) (i x : Int32) (v : Int64) : gA (sJ ob k i v) j x = gA ob j x := rfl
theorem gJ_sI (ob : Rec) (k j : Nat) (v x : Int32) : gJ (sI ob k v) j x = gJ ob j x := rfl
theorem gJ_sA (ob : Rec) (k j : Nat) (i v x : Int32) : gJ (sA ob k i v) j x = gJ ob j x := rfl
theorem gJ_sJ (ob : Rec) (k j : Nat) (i x : Int32) (v : Int64) : gJ (sJ ob k i v) j x = if j = k ∧ x = i then v else gJ ob j x := rfl
theorem gI_z (k : Nat) : gI zrec k = 0 := rfl
theorem gA_z (k : Nat) (i : Int32) : gA zrec k i = 0 := rfl
theorem gJ_z (k : Nat) (i : Int32) : gJ zrec k i = 0 := rfl
theorem chk_ok {γ : Type} {n i : Int32} {A : Option γ} (h : 0 ≤ i.toInt ∧ i.toInt < n.toInt) : chk n i A = A := by
  have h0 : ¬ i < 0 := by rw [Int32.lt_iff_toInt_lt]; show ¬ i.toInt < 0; omega
  have h1 : i < n := by rw [Int32.lt_iff_toInt_lt]; exact h.2
  unfold chk; rw [if_neg h0, if_pos h1]
theorem lt_i {x y : Int32} : x < y ↔ x.toInt < y.toInt := Int32.lt_iff_toInt_lt
theorem le_i {x y : Int32} : x ≤ y ↔ x.toInt ≤ y.toInt := Int32.le_iff_toInt_le
theorem eq_i32 {x y : Int32} : x = y ↔ x.toInt = y.toInt := Int32.toInt_inj.symm
theorem bm_id {n : Int} (h : -2147483648 ≤ n ∧ n < 2147483648) : n.bmod (2 ^ 32) = n := Int.bmod_eq_of_le (by omega) (by omega)
theorem ad {x y : Int32} (h : -2147483648 ≤ x.toInt + y.toInt ∧ x.toInt + y.toInt < 2147483648) : (x + y).toInt = x.toInt + y.toInt := by rw [Int32.toInt_add, bm_id h]
theorem sb {x y : Int32} (h : -2147483648 ≤ x.toInt - y.toInt ∧ x.toInt - y.toInt < 2147483648) : (x - y).toInt = x.toInt - y.toInt := by rw [Int32.toInt_sub, bm_id h]
theorem ml {x y : Int32} (h : -2147483648 ≤ x.toInt * y.toInt ∧ x.toInt * y.toInt < 2147483648) : (x * y).toInt = x.toInt * y.toInt := by rw [Int32.toInt_mul, bm_id h]
theorem bind2_some {α β γ : Type} (a : α) (b : β) (f : α → β → Option γ) : bind2 (some (a, b)) f = f a b := rfl
/- fields of a long: the w bits at p hold v -/
def fb (l : Int64) (p w : Nat) (v : Int32) : Prop := ∀ i, i < w → l.toBitVec.getLsbD (p + i) = v.toBitVec.getLsbD i
theorem v_hi {v : Int32} {w : Nat} (h : 0 ≤ v.toInt ∧ v.toInt < 2 ^ w) (hw : w ≤ 30) (i : Nat) (hi : w ≤ i) : v.toBitVec.getLsbD i = false := by
  have e : v.toBitVec.toNat < 2 ^ w := by
    have h1 : v.toInt = v.toBitVec.toInt := rfl
    have h2 := v.toBitVec.isLt
    have hp : (2 : Nat) ^ w ≤ 2 ^ 30 := Nat.pow_le_pow_right (by omega) hw
    have hp' : ((2 ^ w : Nat) : Int) = 2 ^ w := by simp
    rw [h1, BitVec.toInt_eq_toNat_cond] at h
    split at h
    · omega
    · omega
  rw [← BitVec.testBit_toNat]
  exact Nat.testBit_lt_two_pow (Nat.lt_of_lt_of_le e (Nat.pow_le_pow_right (by omega) hi))
theorem v_64 {v : Int32} (h : 0 ≤ v.toInt) (i : Nat) : v.toInt64.toBitVec.getLsbD i = v.toBitVec.getLsbD i := by
  have m : v.toBitVec.msb = false := by
    cases c : v.toBitVec.msb
    · rfl
    · have : v.toBitVec.toInt < 0 := BitVec.toInt_neg_of_msb_true c
      have h1 : v.toInt = v.toBitVec.toInt := rfl
      omega
  show (v.toBitVec.signExtend 64).getLsbD i = _
  rw [BitVec.getLsbD_signExtend, m]
  by_cases c : i < 32
  · have c' : i < 64 := by omega
    simp [c, c']
  · rw [BitVec.getLsbD_of_ge v.toBitVec i (by omega)]; simp [c]
theorem fb_or (l : Int64) (v : Int32) (s : Int64) (p w : Nat) (hs : (s.toBitVec.smod 64).toNat = p) (hv : 0 ≤ v.toInt ∧ v.toInt < 2 ^ w) (hw : w ≤ 30) (hp : p + w ≤ 64) : (fb l p w 0 → fb (l ||| (v.toInt64 <<< s)) p w v) ∧ (∀ p' v', fb l p' w v' → (p' + w ≤ p ∨ p + w ≤ p') → fb (l ||| (v.toInt64 <<< s)) p' w v') ∧ (∀ b, p + w ≤ b → (l ||| (v.toInt64 <<< s)).toBitVec.getLsbD b = l.toBitVec.getLsbD b) := by
  have e : ∀ b, (l ||| (v.toInt64 <<< s)).toBitVec.getLsbD b = (l.toBitVec.getLsbD b || (decide (b < 64) && !decide (b < p) && v.toBitVec.getLsbD (b - p))) := by
    intro b
    rw [Int64.toBitVec_or, BitVec.getLsbD_or, Int64.toBitVec_shiftLeft, BitVec.shiftLeft_eq', hs, BitVec.getLsbD_shiftLeft, v_64 hv.1]
  have z0 : ∀ i, (0 : Int32).toBitVec.getLsbD i = false := fun i => by
    show (0#32).getLsbD i = false
    simp
  have far : ∀ b, (b < p ∨ p + w ≤ b) → (l ||| (v.toInt64 <<< s)).toBitVec.getLsbD b = l.toBitVec.getLsbD b := by
    intro b hb
    rw [e]
    rcases hb with h | h
    · simp [h]
    · rw [v_hi hv hw (b - p) (by omega)]; simp
  refine ⟨fun h0 i hi => ?_, fun p' v' h' hd i hi => ?_, fun b hb => far b (Or.inr hb)⟩
  · have c1 : p + i < 64 := by omega
    have c2 : ¬ p + i < p := by omega
    have c3 : p + i - p = i := by omega
    rw [e, h0 i hi, z0, c3]
    simp [c1, c2]
  · rw [far (p' + i) (by omega)]; exact h' i hi
theorem fb_clr (l : Int64) (m s : Int64) (p w : Nat) (hs : (s.toBitVec.smod 64).toNat = p) (hm : ∀ i, m.toBitVec.getLsbD i = decide (i < w)) (hp : p + w ≤ 64) : fb (l &&& ((m <<< s) ^^^ -1)) p w 0 ∧ (∀ p' v', fb l p' w v' → (p' + w ≤ p ∨ p + w ≤ p') → p' + w ≤ 64 → fb (l &&& ((m <<< s) ^^^ -1)) p' w v') := by
  have a1 : (-1 : Int64).toBitVec = BitVec.allOnes 64 := by decide
  have e : ∀ b, b < 64 → (l &&& ((m <<< s) ^^^ -1)).toBitVec.getLsbD b = (l.toBitVec.getLsbD b && !(!decide (b < p) && decide (b - p < w))) := by
    intro b hb
    rw [Int64.toBitVec_and, BitVec.getLsbD_and, Int64.toBitVec_xor, BitVec.getLsbD_xor, a1, BitVec.getLsbD_allOnes, Int64.toBitVec_shiftLeft, BitVec.shiftLeft_eq', hs, BitVec.getLsbD_shiftLeft, hm]
    simp [hb]
  refine ⟨fun i hi => ?_, fun p' v' h' hd h64 i hi => ?_⟩
  · have c1 : p + i < 64 := by omega
    have c2 : ¬ p + i < p := by omega
    have c3 : p + i - p = i := by omega
    rw [e _ c1, c3]
    show _ = (0#32).getLsbD i
    simp [c2, hi]
  · have c1 : p' + i < 64 := by omega
    rw [e _ c1, h' i hi]
    rcases hd with h | h
    · have c : p' + i < p := by omega
      simp [c]
    · have c : ¬ p' + i - p < w := by omega
      simp [c]
theorem fb_get (l m : Int64) (s : UInt64) (v : Int32) (p w : Nat) (hs : (s.toBitVec % 64).toNat = p) (hm : ∀ i, m.toBitVec.getLsbD i = decide (i < w)) (hv : 0 ≤ v.toInt ∧ v.toInt < 2 ^ w) (hw : w ≤ 30) (h : fb l p w v) : ((l.toUInt64 >>> s).toInt64 &&& m).toInt32 = v := by
  apply Int32.toBitVec_inj.mp
  have e1 : ((l.toUInt64 >>> s).toInt64 &&& m).toBitVec = (l.toBitVec >>> p) &&& m.toBitVec := by
    rw [Int64.toBitVec_and]
    congr 1
    show (l.toUInt64 >>> s).toBitVec = _
    rw [UInt64.toBitVec_shiftRight, BitVec.ushiftRight_eq', hs]; rfl
  show ((l.toUInt64 >>> s).toInt64 &&& m).toBitVec.signExtend 32 = _
  rw [e1]
  apply BitVec.eq_of_getLsbD_eq
  intro i hi
  rw [BitVec.getLsbD_signExtend, BitVec.getLsbD_and, BitVec.getLsbD_ushiftRight, hm]
  have c64 : i < 64 := by omega
  by_cases c : i < w
  · rw [h i c]; simp [hi, c, c64]
  · rw [v_hi hv hw i (by omega)]; simp [c, c64]
theorem fb0 (p w : Nat) : fb 0 p w 0 := by
  intro i _
  show (0#64).getLsbD (p + i) = (0#32).getLsbD i
  simp
theorem fb_inj {l : Int64} {p w : Nat} {v v' : Int32} (hw : w ≤ 30) (hv : 0 ≤ v.toInt ∧ v.toInt < 2 ^ w) (hv' : 0 ≤ v'.toInt ∧ v'.toInt < 2 ^ w) (h : fb l p w v) (h' : fb l p w v') : v = v' := by
  apply Int32.toBitVec_inj.mp
  apply BitVec.eq_of_getLsbD_eq
  intro i hi
  by_cases c : i < w
  · rw [← h i c, h' i c]
  · rw [v_hi hv hw i (by omega), v_hi hv' hw i (by omega)]
theorem t0 : (0 : Int32).toInt = 0 := rfl
theorem t1 : (1 : Int32).toInt = 1 := rfl
theorem t2 : (2 : Int32).toInt = 2 := rfl
theorem t3 : (3 : Int32).toInt = 3 := rfl
theorem t32 : (32 : Int32).toInt = 32 := rfl
theorem t64 : (64 : Int32).toInt = 64 := rfl
theorem succ8 {i : Int32} (h : 0 ≤ i.toInt ∧ i.toInt < 1000) : (i + 1).toInt = i.toInt + 1 := by rw [ad (by rw [t1]; omega), t1]
def Kn (n x : Int32) : Prop := 0 ≤ x.toInt ∧ x.toInt < n.toInt
abbrev NN (n : Int32) : Prop := n ∈ ([8, 12] : List Int32)
abbrev RS (rs : Int32) : Prop := rs ∈ ([1, 2, 3, 4] : List Int32)
theorem tabM : ∀ n ∈ ([8, 12] : List Int32), ∀ rs ∈ ([1, 2, 3, 4] : List Int32), ∀ x ∈ ([0, 1, 2, 3, 4, 5, 6, 7, 8, 9, 10, 11] : List Int32), (x.toInt < n.toInt → (x / rs).toInt < ((n + rs - 1) / rs).toInt) ∧ 0 ≤ (x / rs).toInt ∧ (x / rs * rs).toInt ≤ x.toInt ∧ x.toInt < (x / rs * rs + rs).toInt ∧ 0 ≤ (x * rs).toInt ∧ ((n + rs - 1) / rs).toInt ≤ 12 ∧ 0 ≤ ((n + rs - 1) / rs).toInt ∧ ¬ rs = 0 ∧ (x / rs).toInt < 32 ∧ (8 ≤ n.toInt ∧ n.toInt ≤ 12) := by decide +kernel
theorem n_b {n : Int32} (hn : NN n) : 8 ≤ n.toInt ∧ n.toInt ≤ 12 := (tabM n hn 1 (by decide) 0 (by decide)).2.2.2.2.2.2.2.2.2
theorem m12 {x : Int32} (h0 : 0 ≤ x.toInt) (h1 : x.toInt < 12) : x ∈ ([0, 1, 2, 3, 4, 5, 6, 7, 8, 9, 10, 11] : List Int32) := by
  simp only [List.mem_cons, eq_i32, Int32.reduceToInt, List.not_mem_nil, or_false]
  omega
theorem kM {n x : Int32} (hn : NN n) (h : Kn n x) : x ∈ ([0, 1, 2, 3, 4, 5, 6, 7, 8, 9, 10, 11] : List Int32) := m12 h.1 (by have := n_b hn; have := h.2; omega)
/-- the legs' bases -/
def SD (s d : Int32) : Prop := (s = 0 ∧ d = 32) ∨ (s = 32 ∧ d = 0)
theorem bs {n s x : Int32} (hn : NN n) (hs : s = 0 ∨ s = 32) (h : Kn n x) : (s + x).toInt = s.toInt + x.toInt := by
  have := n_b hn; have := h.1; have := h.2
  rcases hs with rfl | rfl
  · rw [ad (by rw [t0]; omega)]
  · rw [ad (by rw [t32]; omega)]
theorem SD.l {s d : Int32} (h : SD s d) : s = 0 ∨ s = 32 := h.elim (fun h => Or.inl h.1) (fun h => Or.inr h.1)
theorem SD.r {s d : Int32} (h : SD s d) : d = 0 ∨ d = 32 := h.elim (fun h => Or.inr h.2) (fun h => Or.inl h.2)
theorem SD.ne {n s d x y : Int32} (h : SD s d) (hn : NN n) (hx : Kn n x) (hy : Kn n y) : ¬ s + x = d + y := by
  intro e
  have e1 := bs hn h.l hx
  rw [e, bs hn h.r hy] at e1
  have := n_b hn; have := hx.1; have := hx.2; have := hy.1; have := hy.2
  rcases h with ⟨rfl, rfl⟩ | ⟨rfl, rfl⟩
  · rw [t0, t32] at e1; omega
  · rw [t0, t32] at e1; omega
theorem bs_inj {n d x y : Int32} (hn : NN n) (hd : d = 0 ∨ d = 32) (hx : Kn n x) (hy : Kn n y) (e : d + x = d + y) : x = y := by
  have e1 := bs hn hd hx
  rw [e, bs hn hd hy] at e1
  exact eq_i32.mpr (by omega)
def Rl (n s d : Int32) (ob q : Rec) : Prop := q.1 = ob.1 ∧ (∀ (k : Nat) (x : Int32), ¬ k = 0 → gA q k x = gA ob k x) ∧ (∀ y : Int32, (∀ x, Kn n x → ¬ y = d + x) → gA q 0 y = gA ob 0 y) ∧ (∀ x : Int32, Kn n x → gA q 0 (d + x) = gA ob 0 (s + x) ∨ gA q 0 (d + x) = gA ob 0 (d + x))
theorem Rl.refl (n s d : Int32) (ob : Rec) : Rl n s d ob ob := ⟨rfl, fun _ _ _ => rfl, fun _ _ => rfl, fun _ _ => Or.inr rfl⟩
theorem Rl.src {n s d : Int32} {a b : Rec} (h : Rl n s d a b) (hn : NN n) (hsd : SD s d) {x : Int32} (hx : Kn n x) : gA b 0 (s + x) = gA a 0 (s + x) := h.2.2.1 (s + x) (fun y hy => hsd.ne hn hx hy)
theorem Rl.trans {n s d : Int32} {a b c : Rec} (h : Rl n s d a b) (g : Rl n s d b c) (hn : NN n) (hsd : SD s d) : Rl n s d a c := by
  refine ⟨g.1.trans h.1, fun k x hk => (g.2.1 k x hk).trans (h.2.1 k x hk), fun x hx => (g.2.2.1 x hx).trans (h.2.2.1 x hx), fun x hx => ?_⟩
  rcases g.2.2.2 x hx with e | e
  · exact Or.inl (e.trans (h.src hn hsd hx))
  · rcases h.2.2.2 x hx with e' | e'
    · exact Or.inl (e.trans e')
    · exact Or.inr (e.trans e')
theorem Rl.one (n s d : Int32) (ob : Rec) (i : Int32) (hn : NN n) (hsd : SD s d) (hi : Kn n i) : Rl n s d ob (sA ob 0 (d + i) (gA ob 0 (s + i))) := by
  refine ⟨rfl, fun k x hk => ?_, fun y hy => ?_, fun x hx => ?_⟩
  · rw [gA_sA, if_neg (fun h => hk h.1)]
  · rw [gA_sA, if_neg (fun h => hy i hi h.2)]
  · rw [gA_sA]
    by_cases c : x = i
    · rw [c, if_pos ⟨rfl, rfl⟩]; exact Or.inl rfl
    · rw [if_neg (fun h => c (bs_inj hn hsd.r hx hi h.2))]
      exact Or.inr rfl
theorem in_l (NF : Nat) (n s d : Int32) (hn : NN n) (hsd : SD s d) (k14 : Rec → Int32 → Int32 → Int32 → Option Rec) (i5 i7 : Int32) (h7 : i7.toInt ≤ n.toInt) : ∀ (m fuel : Nat) (ob : Rec) (i : Int32), m < fuel → 0 ≤ i.toInt → i7.toInt - i.toInt ≤ m → ∃ q, X_copyDirtyRegions_l73 NF k14 fuel ob s d i5 i7 i = k14 q s d (i5 + 1) ∧ Rl n s d ob q ∧ ∀ x, Kn n x → i.toInt ≤ x.toInt → x.toInt < i7.toInt → gA q 0 (d + x) = gA ob 0 (s + x) := by
  have nb := n_b hn
  intro m
  induction m with
  | zero =>
    intro fuel ob i hf h0 h2
    obtain ⟨n, rfl⟩ : ∃ n, fuel = n + 1 := ⟨fuel - 1, by omega⟩
    refine ⟨ob, ?_, Rl.refl _ _ _ ob, fun x _ a b => absurd b (by omega)⟩
    show X_copyDirtyRegions_w73 NF k14 _ ob s d i5 i7 i = _
    unfold X_copyDirtyRegions_w73; rw [if_neg (by rw [lt_i]; omega)]
  | succ m ih =>
    intro fuel ob i hf h0 h2
    obtain ⟨f, rfl⟩ : ∃ n, fuel = n + 1 := ⟨fuel - 1, by omega⟩
    by_cases hc : i.toInt < i7.toInt
    · have hi : Kn n i := ⟨h0, by omega⟩
      have ei := succ8 (i := i) (by omega)
      have es := bs hn hsd.l hi
      have ed := bs hn hsd.r hi
      obtain ⟨q, eq, q1, q2⟩ := ih f (sA ob 0 (d + i) (gA ob 0 (s + i))) (i + 1) (by omega) (by omega) (by omega)
      have r1 := Rl.one n s d ob i hn hsd hi
      have cs : 0 ≤ (s + i).toInt ∧ (s + i).toInt < 64 := by
        rcases hsd.l with rfl | rfl
        · rw [t0] at es; omega
        · rw [t32] at es; omega
      have cdd : 0 ≤ (d + i).toInt ∧ (d + i).toInt < 64 := by
        rcases hsd.r with rfl | rfl
        · rw [t0] at ed; omega
        · rw [t32] at ed; omega
      refine ⟨q, ?_, r1.trans q1 hn hsd, ?_⟩
      · rw [← eq]
        show X_copyDirtyRegions_w73 NF k14 _ ob s d i5 i7 i = _
        unfold X_copyDirtyRegions_w73; rw [if_pos (lt_i.mpr hc), chk_ok (by rw [t64]; exact cs), chk_ok (by rw [t64]; exact cdd)]
      · intro x hx a b
        by_cases c : x = i
        · rw [c]
          rcases q1.2.2.2 i hi with e | e
          · rw [e]; exact r1.src hn hsd hi
          · rw [e, gA_sA, if_pos ⟨rfl, rfl⟩]
        · have hne : x.toInt ≠ i.toInt := fun h => c (eq_i32.mpr h)
          rw [q2 x hx (by omega) b]
          exact r1.src hn hsd hx
    · refine ⟨ob, ?_, Rl.refl _ _ _ ob, fun x _ a b => absurd b (by omega)⟩
      show X_copyDirtyRegions_w73 NF k14 _ ob s d i5 i7 i = _
      unfold X_copyDirtyRegions_w73; rw [if_neg (by rw [lt_i]; omega)]
theorem out_l (NF : Nat) (hNF : 20 < NF) (n s d : Int32) (hn : NN n) (hsd : SD s d) (rs : Int32) (hrs : RS rs) : ∀ (m fuel : Nat) (ob : Rec) (i5 : Int32), m < fuel → 0 ≤ i5.toInt → ((n + rs - 1) / rs).toInt - i5.toInt ≤ m → gI ob 0 = n → gI ob 1 = rs → gI ob 3 = (n + rs - 1) / rs → ∃ q, X_copyDirtyRegions_l14 NF fuel ob s d i5 = some q ∧ Rl n s d ob q ∧ ∀ x, Kn n x → i5.toInt ≤ (x / rs).toInt → ¬ gA ob 3 (x / rs) = 0 → gA q 0 (d + x) = gA ob 0 (s + x) := by
  have nb := n_b hn
  have hT := fun x (h : Kn n x) => tabM n hn rs hrs x (kM hn h)
  intro m
  induction m with
  | zero =>
    intro fuel ob i5 hf h0 h2 g0 g1 g3
    obtain ⟨f, rfl⟩ : ∃ n, fuel = n + 1 := ⟨fuel - 1, by omega⟩
    refine ⟨ob, ?_, Rl.refl _ _ _ ob, fun x hx a _ => ?_⟩
    · show X_copyDirtyRegions_w14 NF _ ob s d i5 = _
      unfold X_copyDirtyRegions_w14; rw [g3, if_neg (by rw [lt_i]; omega)]
    · have := (hT x hx).1 hx.2; omega
  | succ m ih =>
    intro fuel ob i5 hf h0 h2 g0 g1 g3
    obtain ⟨f, rfl⟩ : ∃ n, fuel = n + 1 := ⟨fuel - 1, by omega⟩
    by_cases hc : i5.toInt < ((n + rs - 1) / rs).toInt
    · have hR := tabM n hn rs hrs 0 (by decide)
      have h5 := tabM n hn rs hrs i5 (m12 h0 (by omega))
      have ei := succ8 (i := i5) (by omega)
      have c5 : i5 < (n + rs - 1) / rs := lt_i.mpr hc
      by_cases cd : gA ob 3 i5 = 0
      · obtain ⟨q, eq, q1, q2⟩ := ih f ob (i5 + 1) (by omega) (by omega) (by omega) g0 g1 g3
        refine ⟨q, ?_, q1, fun x hx a b => ?_⟩
        · rw [← eq]
          show X_copyDirtyRegions_w14 NF _ ob s d i5 = _
          unfold X_copyDirtyRegions_w14; rw [g3, if_pos c5, chk_ok (by rw [t32]; omega), if_pos cd]
        · have hne : ¬ (x / rs) = i5 := fun h => b (by rw [h]; exact cd)
          have hne' : (x / rs).toInt ≠ i5.toInt := fun h => hne (eq_i32.mpr h)
          exact q2 x hx (by omega) b
      · obtain ⟨i7, h7, h7', e7⟩ : ∃ i7 : Int32, i7.toInt ≤ n.toInt ∧ (∀ x, Kn n x → x.toInt < (i5 * rs + rs).toInt → x.toInt < i7.toInt) ∧ X_copyDirtyRegions_l14 NF (f + 1) ob s d i5 = X_copyDirtyRegions_l73 NF (X_copyDirtyRegions_l14 NF f) NF ob s d i5 i7 (i5 * rs) := by
          by_cases c8 : n < i5 * rs + rs
          · refine ⟨n, by omega, fun x hx _ => hx.2, ?_⟩
            show X_copyDirtyRegions_w14 NF _ ob s d i5 = _
            unfold X_copyDirtyRegions_w14; rw [g3, if_pos c5, chk_ok (by rw [t32]; omega), if_neg cd, g0, g1, if_pos c8]
          · refine ⟨i5 * rs + rs, by rw [lt_i] at c8; omega, fun x hx h => h, ?_⟩
            show X_copyDirtyRegions_w14 NF _ ob s d i5 = _
            unfold X_copyDirtyRegions_w14; rw [g3, if_pos c5, chk_ok (by rw [t32]; omega), if_neg cd, g0, g1, if_neg c8]
        obtain ⟨p, ep, p1, p2⟩ := in_l NF n s d hn hsd (X_copyDirtyRegions_l14 NF f) i5 i7 h7 12 NF ob (i5 * rs) (by omega) h5.2.2.2.2.1 (by have := h5.2.2.2.2.1; omega)
        have pI : ∀ k, gI p k = gI ob k := fun k => by unfold gI; rw [p1.1]
        obtain ⟨q, eq, q1, q2⟩ := ih f p (i5 + 1) (by omega) (by omega) (by omega) ((pI 0).trans g0) ((pI 1).trans g1) ((pI 3).trans g3)
        refine ⟨q, e7.trans (ep.trans eq), p1.trans q1 hn hsd, fun x hx a b => ?_⟩
        by_cases hx5 : (x / rs).toInt = i5.toInt
        · have hx5' : x / rs = i5 := eq_i32.mpr hx5
          have tx := hT x hx
          rw [hx5'] at tx
          have ex := p2 x hx tx.2.2.1 (h7' x hx tx.2.2.2.1)
          rcases q1.2.2.2 x hx with e | e
          · rw [e]; exact p1.src hn hsd hx
          · rw [e]; exact ex
        · rw [q2 x hx (by omega) (by rw [p1.2.1 3 _ (by decide)]; exact b)]
          exact p1.src hn hsd hx
    · refine ⟨ob, ?_, Rl.refl _ _ _ ob, fun x hx a _ => ?_⟩
      · show X_copyDirtyRegions_w14 NF _ ob s d i5 = _
        unfold X_copyDirtyRegions_w14; rw [g3, if_neg (by rw [lt_i]; omega)]
      · have := (hT x hx).1 hx.2; omega
/-- only the bitmap's arrays are touched -/
def Bm (ob q : Rec) : Prop := q.1 = ob.1 ∧ ∀ (k : Nat) (x : Int32), k < 3 → gA q k x = gA ob k x
theorem Bm.refl (ob : Rec) : Bm ob ob := ⟨rfl, fun _ _ _ => rfl⟩
theorem Bm.trans {a b c : Rec} (h : Bm a b) (g : Bm b c) : Bm a c := ⟨g.1.trans h.1, fun k x hk => (g.2 k x hk).trans (h.2 k x hk)⟩
theorem Bm.n {a b : Rec} (h : Bm a b) (k : Nat) : gI b k = gI a k := by unfold gI; rw [h.1]
theorem Bm.set (ob : Rec) (i u v w : Int32) : Bm ob (sA (sA (sA ob 3 i u) 4 i v) 5 i w) := by
  refine ⟨rfl, fun k x hk => ?_⟩
  rw [gA_sA, if_neg (fun h => by have := h.1; omega), gA_sA, if_neg (fun h => by have := h.1; omega), gA_sA, if_neg (fun h => by have := h.1; omega)]
theorem cb_l (NF : Nat) : ∀ (m fuel : Nat) (ob : Rec) (i : Int32), m < fuel → 0 ≤ i.toInt → 32 - i.toInt ≤ m → ∃ q, X_clearBitmap_l2 NF fuel ob i = some q ∧ Bm ob q := by
  intro m
  induction m with
  | zero =>
    intro fuel ob i hf h0 h2
    obtain ⟨n, rfl⟩ : ∃ n, fuel = n + 1 := ⟨fuel - 1, by omega⟩
    refine ⟨ob, ?_, Bm.refl ob⟩
    show X_clearBitmap_w2 NF _ ob i = _
    unfold X_clearBitmap_w2; rw [if_neg (by rw [lt_i, t32]; omega)]
  | succ m ih =>
    intro fuel ob i hf h0 h2
    obtain ⟨n, rfl⟩ : ∃ n, fuel = n + 1 := ⟨fuel - 1, by omega⟩
    by_cases hc : i.toInt < 32
    · have ei := succ8 (i := i) (by omega)
      have c : ∀ A : Option Rec, chk 32 i A = A := fun A => chk_ok (by rw [t32]; omega)
      obtain ⟨q, eq, q1⟩ := ih n (sA (sA (sA ob 3 i 0) 4 i 0) 5 i 0) (i + 1) (by omega) (by omega) (by omega)
      refine ⟨q, ?_, (Bm.set ob i 0 0 0).trans q1⟩
      rw [← eq]
      show X_clearBitmap_w2 NF _ ob i = _
      unfold X_clearBitmap_w2; rw [if_pos (by rw [lt_i, t32]; omega), c, c, c]
    · refine ⟨ob, ?_, Bm.refl ob⟩
      show X_clearBitmap_w2 NF _ ob i = _
      unfold X_clearBitmap_w2; rw [if_neg (by rw [lt_i, t32]; omega)]
theorem ca_l (NF : Nat) (nR : Int32) (hR : nR.toInt ≤ 12) : ∀ (m fuel : Nat) (ob : Rec) (i : Int32), m < fuel → 0 ≤ i.toInt → nR.toInt - i.toInt ≤ m → gI ob 3 = nR → ∃ q, X_clearAged_l2 NF fuel ob i = some q ∧ Bm ob q := by
  intro m
  induction m with
  | zero =>
    intro fuel ob i hf h0 h2 g3
    obtain ⟨n, rfl⟩ : ∃ n, fuel = n + 1 := ⟨fuel - 1, by omega⟩
    refine ⟨ob, ?_, Bm.refl ob⟩
    show X_clearAged_w2 NF _ ob i = _
    unfold X_clearAged_w2; rw [g3, if_neg (by rw [lt_i]; omega)]
  | succ m ih =>
    intro fuel ob i hf h0 h2 g3
    obtain ⟨n, rfl⟩ : ∃ n, fuel = n + 1 := ⟨fuel - 1, by omega⟩
    by_cases hc : i.toInt < nR.toInt
    · have ei := succ8 (i := i) (by omega)
      have c : ∀ A : Option Rec, chk 32 i A = A := fun A => chk_ok (by rw [t32]; omega)
      have key : ∀ ob1, Bm ob ob1 → X_clearAged_l2 NF (n + 1) ob i = X_clearAged_l2 NF n ob1 (i + 1) → ∃ q, X_clearAged_l2 NF (n + 1) ob i = some q ∧ Bm ob q := by
        intro ob1 b1 e1
        obtain ⟨q, eq, q1⟩ := ih n ob1 (i + 1) (by omega) (by omega) (by omega) ((b1.n 3).trans g3)
        exact ⟨q, e1.trans eq, b1.trans q1⟩
      by_cases c1 : gA ob 3 i = 0
      · refine key ob (Bm.refl ob) ?_
        show X_clearAged_w2 NF _ ob i = _
        unfold X_clearAged_w2; rw [g3, if_pos (lt_i.mpr hc), c, if_pos c1]
      · by_cases c2 : gA ob 4 i = 0
        · refine key ob (Bm.refl ob) ?_
          show X_clearAged_w2 NF _ ob i = _
          unfold X_clearAged_w2; rw [g3, if_pos (lt_i.mpr hc), c, if_neg c1, c, if_pos c2]
        · by_cases c3 : gA ob 5 i < gI ob 2
          · refine key ob (Bm.refl ob) ?_
            show X_clearAged_w2 NF _ ob i = _
            unfold X_clearAged_w2; rw [g3, if_pos (lt_i.mpr hc), c, if_neg c1, c, if_neg c2, c, if_pos c3]
          · refine key _ (Bm.set ob i 0 0 0) ?_
            show X_clearAged_w2 NF _ ob i = _
            unfold X_clearAged_w2; rw [g3, if_pos (lt_i.mpr hc), c, if_neg c1, c, if_neg c2, c, if_neg c3, c, c, c]
    · refine ⟨ob, ?_, Bm.refl ob⟩
      show X_clearAged_w2 NF _ ob i = _
      unfold X_clearAged_w2; rw [g3, if_neg (by rw [lt_i]; omega)]
/-- all but array 5 -/
def Ag (ob q : Rec) : Prop := q.1 = ob.1 ∧ ∀ (k : Nat) (x : Int32), ¬ k = 5 → gA q k x = gA ob k x
theorem ao_l (NF : Nat) (nR r : Int32) (hR : nR.toInt ≤ 12) : ∀ (m fuel : Nat) (ob : Rec) (i : Int32), m < fuel → 0 ≤ i.toInt → nR.toInt - i.toInt ≤ m → gI ob 3 = nR → ∃ q, X_ageOthers_l2 NF fuel ob r i = some q ∧ Ag ob q := by
  intro m
  induction m with
  | zero =>
    intro fuel ob i hf h0 h2 g3
    obtain ⟨n, rfl⟩ : ∃ n, fuel = n + 1 := ⟨fuel - 1, by omega⟩
    refine ⟨ob, ?_, rfl, fun _ _ _ => rfl⟩
    show X_ageOthers_w2 NF _ ob r i = _
    unfold X_ageOthers_w2; rw [g3, if_neg (by rw [lt_i]; omega)]
  | succ m ih =>
    intro fuel ob i hf h0 h2 g3
    obtain ⟨n, rfl⟩ : ∃ n, fuel = n + 1 := ⟨fuel - 1, by omega⟩
    by_cases hc : i.toInt < nR.toInt
    · have ei := succ8 (i := i) (by omega)
      have c : ∀ A : Option Rec, chk 32 i A = A := fun A => chk_ok (by rw [t32]; omega)
      obtain ⟨q, eq, q1⟩ := ih n ob (i + 1) (by omega) (by omega) (by omega) g3
      by_cases c1 : i = r
      · refine ⟨q, ?_, q1⟩
        rw [← eq]
        show X_ageOthers_w2 NF _ ob r i = _
        unfold X_ageOthers_w2; rw [g3, if_pos (lt_i.mpr hc), if_pos c1]
      · by_cases c2 : gA ob 4 i = 0
        · refine ⟨q, ?_, q1⟩
          rw [← eq]
          show X_ageOthers_w2 NF _ ob r i = _
          unfold X_ageOthers_w2; rw [g3, if_pos (lt_i.mpr hc), if_neg c1, c, if_pos c2]
        · by_cases c3 : gA ob 5 i < gI ob 2
          · obtain ⟨q', eq', q1'⟩ := ih n (sA ob 5 i (gA ob 5 i + 1)) (i + 1) (by omega) (by omega) (by omega) g3
            refine ⟨q', ?_, q1'.1, fun k x hk => ?_⟩
            · rw [← eq']
              show X_ageOthers_w2 NF _ ob r i = _
              unfold X_ageOthers_w2; rw [g3, if_pos (lt_i.mpr hc), if_neg c1, c, if_neg c2, c, if_pos c3, c, c]
            · rw [q1'.2 k x hk, gA_sA, if_neg (fun h => hk h.1)]
          · refine ⟨q, ?_, q1⟩
            rw [← eq]
            show X_ageOthers_w2 NF _ ob r i = _
            unfold X_ageOthers_w2; rw [g3, if_pos (lt_i.mpr hc), if_neg c1, c, if_neg c2, c, if_neg c3]
    · refine ⟨ob, ?_, rfl, fun _ _ _ => rfl⟩
      show X_ageOthers_w2 NF _ ob r i = _
      unfold X_ageOthers_w2; rw [g3, if_neg (by rw [lt_i]; omega)]
theorem zl_l (NF : Nat) (n d : Int32) (hn : NN n) (hd : d = 0 ∨ d = 32) : ∀ (m fuel : Nat) (ob : Rec) (i : Int32), m < fuel → 0 ≤ i.toInt → n.toInt - i.toInt ≤ m → gI ob 0 = n → ∃ q, X_zeroLeg_l7 NF fuel ob d i = some q ∧ q.1 = ob.1 ∧ (∀ (k : Nat) (x : Int32), ¬ k = 0 → gA q k x = gA ob k x) ∧ (∀ y, (∀ x, Kn n x → ¬ y = d + x) → gA q 0 y = gA ob 0 y) ∧ (∀ x, Kn n x → x.toInt < i.toInt → gA q 0 (d + x) = gA ob 0 (d + x)) ∧ (∀ x, Kn n x → i.toInt ≤ x.toInt → gA q 0 (d + x) = 0) := by
  have nb := n_b hn
  intro m
  induction m with
  | zero =>
    intro fuel ob i hf h0 h2 g0
    obtain ⟨f, rfl⟩ : ∃ n, fuel = n + 1 := ⟨fuel - 1, by omega⟩
    refine ⟨ob, ?_, rfl, fun _ _ _ => rfl, fun _ _ => rfl, fun _ _ _ => rfl, fun x hx a => absurd hx.2 (by omega)⟩
    show X_zeroLeg_w7 NF _ ob d i = _
    unfold X_zeroLeg_w7; rw [g0, if_neg (by rw [lt_i]; omega)]
  | succ m ih =>
    intro fuel ob i hf h0 h2 g0
    obtain ⟨f, rfl⟩ : ∃ n, fuel = n + 1 := ⟨fuel - 1, by omega⟩
    by_cases hc : i.toInt < n.toInt
    · have hi : Kn n i := ⟨h0, hc⟩
      have ei := succ8 (i := i) (by omega)
      have ed := bs hn hd hi
      have cdd : 0 ≤ (d + i).toInt ∧ (d + i).toInt < 64 := by
        rcases hd with rfl | rfl
        · rw [t0] at ed; omega
        · rw [t32] at ed; omega
      obtain ⟨q, eq, q1, q2, q3, q4, q5⟩ := ih f (sA ob 0 (d + i) 0) (i + 1) (by omega) (by omega) (by omega) g0
      refine ⟨q, ?_, q1, fun k x hk => ?_, fun y hy => ?_, fun x hx a => ?_, fun x hx a => ?_⟩
      · rw [← eq]
        show X_zeroLeg_w7 NF _ ob d i = _
        unfold X_zeroLeg_w7; rw [g0, if_pos (lt_i.mpr hc), chk_ok (by rw [t64]; exact cdd)]
      · rw [q2 k x hk, gA_sA, if_neg (fun h => hk h.1)]
      · rw [q3 y hy, gA_sA, if_neg (fun h => hy i hi h.2)]
      · rw [q4 x hx (by omega), gA_sA, if_neg (fun h => by have := bs_inj hn hd hx hi h.2; rw [this] at a; omega)]
      · by_cases c : x = i
        · rw [q4 x hx (by rw [c]; omega), c, gA_sA, if_pos ⟨rfl, rfl⟩]
        · have hne : x.toInt ≠ i.toInt := fun h => c (eq_i32.mpr h)
          exact q5 x hx (by omega)
    · refine ⟨ob, ?_, rfl, fun _ _ _ => rfl, fun _ _ => rfl, fun _ _ _ => rfl, fun x hx a => absurd hx.2 (by omega)⟩
      show X_zeroLeg_w7 NF _ ob d i = _
      unfold X_zeroLeg_w7; rw [g0, if_neg (by rw [lt_i]; omega)]
theorem ma_l (NF : Nat) (nR : Int32) (hR : nR.toInt ≤ 12) : ∀ (m fuel : Nat) (ob : Rec) (i : Int32), m < fuel → 0 ≤ i.toInt → nR.toInt - i.toInt ≤ m → gI ob 3 = nR → ∃ q, X_markAllDirty_l2 NF fuel ob i = some q ∧ Bm ob q ∧ (∀ x, x.toInt < i.toInt → gA q 3 x = gA ob 3 x) ∧ ∀ x, i.toInt ≤ x.toInt → x.toInt < nR.toInt → gA q 3 x = 1 := by
  intro m
  induction m with
  | zero =>
    intro fuel ob i hf h0 h2 g3
    obtain ⟨n, rfl⟩ : ∃ n, fuel = n + 1 := ⟨fuel - 1, by omega⟩
    refine ⟨ob, ?_, Bm.refl ob, fun _ _ => rfl, fun x a b => absurd b (by omega)⟩
    show X_markAllDirty_w2 NF _ ob i = _
    unfold X_markAllDirty_w2; rw [g3, if_neg (by rw [lt_i]; omega)]
  | succ m ih =>
    intro fuel ob i hf h0 h2 g3
    obtain ⟨n, rfl⟩ : ∃ n, fuel = n + 1 := ⟨fuel - 1, by omega⟩
    by_cases hc : i.toInt < nR.toInt
    · have ei := succ8 (i := i) (by omega)
      have c : ∀ A : Option Rec, chk 32 i A = A := fun A => chk_ok (by rw [t32]; omega)
      obtain ⟨q, eq, q1, q2, q3⟩ := ih n (sA (sA (sA ob 3 i 1) 4 i 0) 5 i 0) (i + 1) (by omega) (by omega) (by omega) g3
      refine ⟨q, ?_, (Bm.set ob i 1 0 0).trans q1, fun x a => ?_, fun x a b => ?_⟩
      · rw [← eq]
        show X_markAllDirty_w2 NF _ ob i = _
        unfold X_markAllDirty_w2 X_markDirty; rw [g3, if_pos (lt_i.mpr hc), c, c, c, Option.bind_some]
      · have ne : ¬ x = i := fun h => by rw [h] at a; omega
        rw [q2 x (by omega), gA_sA, if_neg (fun h => ne h.2), gA_sA, if_neg (fun h => ne h.2), gA_sA, if_neg (fun h => ne h.2)]
      · by_cases e : x = i
        · rw [q2 x (by rw [e]; omega), e, gA_sA, if_neg (fun h => absurd h.1 (by decide)), gA_sA, if_neg (fun h => absurd h.1 (by decide)), gA_sA, if_pos ⟨rfl, rfl⟩]
        · have hne : x.toInt ≠ i.toInt := fun h => e (eq_i32.mpr h)
          exact q3 x (by omega) b
    · refine ⟨ob, ?_, Bm.refl ob, fun _ _ => rfl, fun x a b => absurd b (by omega)⟩
      show X_markAllDirty_w2 NF _ ob i = _
      unfold X_markAllDirty_w2; rw [g3, if_neg (by rw [lt_i]; omega)]
def MI (n rs : Int32) (ob : Rec) : Prop :=
  (gI ob 0 = n ∧ gI ob 1 = rs ∧ gI ob 3 = (n + rs - 1) / rs) ∧
  (gI ob 5 = 0 ∨ (gI ob 5 = 1 ∧ gI ob 4 = 0 ∧ Kn n (gI ob 6) ∧ (gI ob 8 = 0 ∨ gI ob 8 = 1 ∨ gI ob 8 = 2) ∧ ¬ gA ob 3 (gI ob 6 / rs) = 0)) ∧
  (∀ x, Kn n x → ¬ gA ob 0 x = gA ob 0 (32 + x) → ¬ gA ob 3 (x / rs) = 0) ∧
  (gA ob 2 0 = 0 → gA ob 2 1 = 0 → gI ob 4 = 0 → (∀ x, Kn n x → ¬ gA ob 0 x = gA ob 0 (32 + x) → gI ob 5 = 1 ∧ x = gI ob 6 ∧ gI ob 8 = 1) ∧ (gI ob 5 = 1 → gI ob 8 = 1 → gA ob 0 (gI ob 6) = gI ob 7))
/-- visibly equal -/
def VE (a b : Rec) : Prop := (∀ k, (k = 0 ∨ (4 ≤ k ∧ k ≤ 8)) → gI a k = gI b k) ∧ ∀ (k : Nat) (x : Int32), k < 3 → gA a k x = gA b k x
theorem VE.sI {a b : Rec} (h : VE a b) (k : Nat) (v : Int32) : VE (sI a k v) (sI b k v) := by
  refine ⟨fun j hj => ?_, h.2⟩
  rw [gI_sI, gI_sI, h.1 j hj]
theorem VE.sA {a b : Rec} (h : VE a b) (k : Nat) (i v : Int32) : VE (sA a k i v) (sA b k i v) := by
  refine ⟨h.1, fun j x hj => ?_⟩
  rw [gA_sA, gA_sA, h.2 j x hj]
theorem VE.symm {a b : Rec} (h : VE a b) : VE b a := ⟨fun k hk => (h.1 k hk).symm, fun k x hk => (h.2 k x hk).symm⟩
theorem VE.trans {a b c : Rec} (h : VE a b) (g : VE b c) : VE a c := ⟨fun k hk => (h.1 k hk).trans (g.1 k hk), fun k x hk => (h.2 k x hk).trans (g.2 k x hk)⟩
theorem Bm.ve {a b : Rec} (h : Bm a b) : VE b a := ⟨fun k _ => h.n k, fun k x hk => h.2 k x hk⟩
def Two (n ra rb : Int32) (A B : Option (Int32 × Rec)) : Prop := ∃ r qa qb, A = some (r, qa) ∧ B = some (r, qb) ∧ MI n ra qa ∧ MI n rb qb ∧ VE qa qb
theorem vb_e {ob : Rec} {n b : Int32} (h0 : gI ob 0 = n) (hb : Kn n b) : X_validBlock ob b = some 1 := by
  have := hb.1; have := hb.2
  unfold X_validBlock; rw [h0, if_neg (by rw [lt_i, t0]; omega), if_pos (by rw [lt_i]; omega)]
theorem vb_n {ob : Rec} {n b : Int32} (h0 : gI ob 0 = n) (hb : ¬ Kn n b) : X_validBlock ob b = some 0 := by
  unfold X_validBlock; rw [h0]
  by_cases c : b < 0
  · rw [if_pos c]
  · rw [if_neg c, if_neg (fun h => hb ⟨by rw [lt_i, t0] at c; omega, lt_i.mp h⟩)]
def wr (ob : Rec) (r b v : Int32) : Rec := sI (sI (sI (sI (sA (sA (sA ob 3 r 1) 4 r 0) 5 r 0) 5 1) 6 b) 7 v) 8 0
theorem wr_ve {a b : Rec} (h : VE a b) (r r' x v : Int32) : VE (wr a r x v) (wr b r' x v) := by
  have e : VE (sA (sA (sA a 3 r 1) 4 r 0) 5 r 0) (sA (sA (sA b 3 r' 1) 4 r' 0) 5 r' 0) := (Bm.set a r 1 0 0).ve.trans (h.trans (Bm.set b r' 1 0 0).ve.symm)
  exact (((e.sI 5 1).sI 6 x).sI 7 v).sI 8 0
theorem wr_mi {n rs : Int32} {ob : Rec} (h : MI n rs ob) (h4 : gI ob 4 = 0) (h5 : gI ob 5 = 0) {x v : Int32} (hx : Kn n x) : MI n rs (wr ob (x / rs) x v) := by
  obtain ⟨⟨g0, g1, g3⟩, -, i1, i2⟩ := h
  have d3 : ∀ y, gA (wr ob (x / rs) x v) 3 y = if y = x / rs then 1 else gA ob 3 y := by
    intro y; unfold wr; simp only [gA_sI, gA_sA]; simp
  have dk : ∀ (k : Nat) (y : Int32), k < 3 → gA (wr ob (x / rs) x v) k y = gA ob k y := fun k y hk => (Bm.set ob (x / rs) 1 0 0).2 k y hk
  refine ⟨⟨g0, g1, g3⟩, Or.inr ⟨rfl, h4, hx, Or.inl rfl, ?_⟩, fun y hy hd => ?_, fun a0 a1 a4 => ⟨fun y hy hd => ?_, fun _ h8 => absurd h8 (by show ¬ (0 : Int32) = 1; decide)⟩⟩
  · show ¬ gA (wr ob (x / rs) x v) 3 (x / rs) = 0
    rw [d3, if_pos rfl]; decide
  · rw [d3]
    by_cases c : y / rs = x / rs
    · rw [if_pos c]; decide
    · rw [if_neg c]; rw [dk 0 _ (by omega), dk 0 _ (by omega)] at hd; exact i1 y hy hd
  · rw [dk 0 _ (by omega), dk 0 _ (by omega)] at hd
    rw [dk 2 _ (by omega)] at a0 a1
    have := ((i2 a0 a1 h4).1 y hy hd).1
    rw [h5] at this; exact absurd this (by decide)
theorem write2 {n ra rb : Int32} {a b : Rec} (hn : NN n) (hra : RS ra) (hrb : RS rb) (ha : MI n ra a) (hb : MI n rb b) (h : VE a b) (x v : Int32) : Two n ra rb (X_write a x v) (X_write b x v) := by
  have e4 := h.1 4 (by omega)
  have e5 := h.1 5 (by omega)
  have ok : ∀ (rs : Int32) (ob : Rec), RS rs → MI n rs ob → gI ob 4 = 0 → gI ob 5 = 0 → Kn n x → ¬ v < 0 → ¬ 65535 < v → X_write ob x v = some (0, wr ob (x / rs) x v) := by
    intro rs ob hrs hm h4 h5 hx c1 c2
    have T := tabM n hn rs hrs x (kM hn hx)
    have c : ∀ A : Option Rec, chk 32 (x / rs) A = A := fun A => chk_ok (by rw [t32]; omega)
    unfold X_write X_markDirty dvz
    rw [if_pos h4, vb_e hm.1.1 hx, Option.bind_some, if_neg (by decide), if_neg c1, if_neg c2, if_pos h5, hm.1.2.1, if_neg T.2.2.2.2.2.2.2.1, c, c, c, Option.bind_some]; rfl
  by_cases c4 : gI a 4 = 0
  · have c4' : gI b 4 = 0 := e4.symm.trans c4
    by_cases cx : Kn n x
    · by_cases c1 : v < 0
      · refine ⟨-2, a, b, ?_, ?_, ha, hb, h⟩
        · unfold X_write; rw [if_pos c4, vb_e ha.1.1 cx, Option.bind_some, if_neg (by decide), if_pos c1]
        · unfold X_write; rw [if_pos c4', vb_e hb.1.1 cx, Option.bind_some, if_neg (by decide), if_pos c1]
      · by_cases c2 : 65535 < v
        · refine ⟨-2, a, b, ?_, ?_, ha, hb, h⟩
          · unfold X_write; rw [if_pos c4, vb_e ha.1.1 cx, Option.bind_some, if_neg (by decide), if_neg c1, if_pos c2]
          · unfold X_write; rw [if_pos c4', vb_e hb.1.1 cx, Option.bind_some, if_neg (by decide), if_neg c1, if_pos c2]
        · by_cases c5 : gI a 5 = 0
          · have c5' : gI b 5 = 0 := e5.symm.trans c5
            exact ⟨0, _, _, ok ra a hra ha c4 c5 cx c1 c2, ok rb b hrb hb c4' c5' cx c1 c2, wr_mi ha c4 c5 cx, wr_mi hb c4' c5' cx, wr_ve h _ _ x v⟩
          · have c5' : ¬ gI b 5 = 0 := fun e => c5 (e5.trans e)
            refine ⟨-3, a, b, ?_, ?_, ha, hb, h⟩
            · unfold X_write; rw [if_pos c4, vb_e ha.1.1 cx, Option.bind_some, if_neg (by decide), if_neg c1, if_neg c2, if_neg c5]
            · unfold X_write; rw [if_pos c4', vb_e hb.1.1 cx, Option.bind_some, if_neg (by decide), if_neg c1, if_neg c2, if_neg c5']
    · refine ⟨-2, a, b, ?_, ?_, ha, hb, h⟩
      · unfold X_write; rw [if_pos c4, vb_n ha.1.1 cx, Option.bind_some, if_pos rfl]
      · unfold X_write; rw [if_pos c4', vb_n hb.1.1 cx, Option.bind_some, if_pos rfl]
  · have c4' : ¬ gI b 4 = 0 := fun e => c4 (e4.trans e)
    refine ⟨-1, a, b, ?_, ?_, ha, hb, h⟩
    · unfold X_write; rw [if_neg c4]
    · unfold X_write; rw [if_neg c4']
def cl (ob : Rec) : Rec := sI (sI (sI (sI ob 5 0) 6 (-1)) 7 0) 8 (-1)
theorem cl_ve {a b : Rec} (h : VE a b) : VE (cl a) (cl b) := (((h.sI 5 0).sI 6 (-1)).sI 7 0).sI 8 (-1)
theorem crash2 {n ra rb : Int32} {a b : Rec} (ha : MI n ra a) (hb : MI n rb b) (h : VE a b) : Two n ra rb (X_crash a) (X_crash b) := by
  have e4 := h.1 4 (by omega)
  have mi : ∀ (rs : Int32) (ob : Rec), MI n rs ob → MI n rs (sI (cl ob) 4 1) := by
    intro rs ob hm
    obtain ⟨g, -, i1, -⟩ := hm
    exact ⟨g, Or.inl rfl, i1, fun _ _ h4 => absurd h4 (by show ¬ (1 : Int32) = 0; decide)⟩
  by_cases c4 : gI a 4 = 0
  · have c4' : gI b 4 = 0 := e4.symm.trans c4
    refine ⟨0, sI (cl a) 4 1, sI (cl b) 4 1, ?_, ?_, mi ra a ha, mi rb b hb, (cl_ve h).sI 4 1⟩
    · unfold X_crash X_clearPending; rw [if_pos c4, Option.bind_some]; rfl
    · unfold X_crash X_clearPending; rw [if_pos c4', Option.bind_some]; rfl
  · have c4' : ¬ gI b 4 = 0 := fun e => c4 (e4.trans e)
    refine ⟨-1, a, b, ?_, ?_, ha, hb, h⟩
    · unfold X_crash; rw [if_neg c4]
    · unfold X_crash; rw [if_neg c4']
theorem MI.st {n rs : Int32} {ob : Rec} (h : MI n rs ob) (i v : Int32) (hi : i = 0 ∨ i = 1) (hv : ¬ v = 0) : MI n rs (sA ob 2 i v) := by
  obtain ⟨g, b, i1, -⟩ := h
  refine ⟨g, b, i1, fun a0 a1 _ => ?_⟩
  rcases hi with rfl | rfl
  · rw [gA_sA, if_pos ⟨rfl, rfl⟩] at a0; exact absurd a0 hv
  · rw [gA_sA, if_pos ⟨rfl, rfl⟩] at a1; exact absurd a1 hv
theorem restart2 {n ra rb : Int32} {a b : Rec} (ha : MI n ra a) (hb : MI n rb b) (h : VE a b) : Two n ra rb (X_restart a) (X_restart b) := by
  have e4 := h.1 4 (by omega)
  have s0 := h.2 2 0 (by omega)
  have s1 := h.2 2 1 (by omega)
  by_cases c4 : gI a 4 = 0
  · have c4' : gI b 4 = 0 := e4.symm.trans c4
    refine ⟨-4, a, b, ?_, ?_, ha, hb, h⟩
    · unfold X_restart; rw [if_pos c4]
    · unfold X_restart; rw [if_pos c4']
  · have c4' : ¬ gI b 4 = 0 := fun e => c4 (e4.trans e)
    have mi : ∀ (rs : Int32) (ob : Rec), MI n rs ob → ¬ gI ob 4 = 0 → ¬ (gA ob 2 0 = 0 ∧ gA ob 2 1 = 0) → MI n rs (sI ob 4 0) := by
      intro rs ob hm h4 hs
      obtain ⟨g, b, i1, -⟩ := hm
      refine ⟨g, b.imp id (fun b => absurd b.2.1 h4), i1, fun a0 a1 _ => absurd ⟨a0, a1⟩ hs⟩
    by_cases c0 : gA a 2 0 = 0
    · have c0' : gA b 2 0 = 0 := s0.symm.trans c0
      by_cases c1 : gA a 2 1 = 0
      · have c1' : gA b 2 1 = 0 := s1.symm.trans c1
        have mi' : ∀ (rs : Int32) (ob : Rec), MI n rs ob → ¬ gI ob 4 = 0 → MI n rs (sA (sI ob 4 0) 2 1 1) := by
          intro rs ob hm h4
          obtain ⟨g, b, i1, -⟩ := hm
          refine ⟨g, b.imp id (fun b => absurd b.2.1 h4), i1, fun a0 a1 _ => ?_⟩
          rw [gA_sA, if_pos ⟨rfl, rfl⟩] at a1; exact absurd a1 (by decide)
        refine ⟨0, sA (sI a 4 0) 2 1 1, sA (sI b 4 0) 2 1 1, ?_, ?_, mi' ra a ha c4, mi' rb b hb c4', (h.sI 4 0).sA 2 1 1⟩
        · unfold X_restart; rw [if_neg c4, chk_ok (by decide), if_pos c0, chk_ok (by decide), if_pos c1, chk_ok (by decide)]
        · unfold X_restart; rw [if_neg c4', chk_ok (by decide), if_pos c0', chk_ok (by decide), if_pos c1', chk_ok (by decide)]
      · have c1' : ¬ gA b 2 1 = 0 := fun e => c1 (s1.trans e)
        refine ⟨0, sI a 4 0, sI b 4 0, ?_, ?_, mi ra a ha c4 (fun x => c1 x.2), mi rb b hb c4' (fun x => c1' x.2), h.sI 4 0⟩
        · unfold X_restart; rw [if_neg c4, chk_ok (by decide), if_pos c0, chk_ok (by decide), if_neg c1]
        · unfold X_restart; rw [if_neg c4', chk_ok (by decide), if_pos c0', chk_ok (by decide), if_neg c1']
    · have c0' : ¬ gA b 2 0 = 0 := fun e => c0 (s0.trans e)
      refine ⟨0, sI a 4 0, sI b 4 0, ?_, ?_, mi ra a ha c4 (fun x => c0 x.1), mi rb b hb c4' (fun x => c0' x.1), h.sI 4 0⟩
      · unfold X_restart; rw [if_neg c4, chk_ok (by decide), if_neg c0]
      · unfold X_restart; rw [if_neg c4', chk_ok (by decide), if_neg c0']
abbrev L01 (i : Int32) : Prop := i = 0 ∨ i = 1
theorem vl_e (ob : Rec) {i : Int32} (hi : L01 i) : X_validLeg ob i = some 1 := by
  unfold X_validLeg
  rcases hi with rfl | rfl
  · rw [if_pos rfl]
  · rw [if_neg (by decide), if_pos rfl]
theorem vl_n (ob : Rec) {i : Int32} (hi : ¬ L01 i) : X_validLeg ob i = some 0 := by
  unfold X_validLeg; rw [if_neg (fun e => hi (Or.inl e)), if_neg (fun e => hi (Or.inr e))]
theorem chk2 {γ : Type} {s : Int32} (hs : L01 s) (A : Option γ) : chk 2 s A = A := by
  rcases hs with rfl | rfl <;> exact chk_ok (by decide)
theorem ot {i : Int32} (hi : L01 i) : L01 (1 - i) := by
  rcases hi with rfl | rfl
  · exact Or.inr rfl
  · exact Or.inl rfl
theorem fail2 {n ra rb : Int32} {a b : Rec} (ha : MI n ra a) (hb : MI n rb b) (h : VE a b) (i : Int32) : Two n ra rb (X_failLeg a i) (X_failLeg b i) := by
  have e4 := h.1 4 (by omega)
  by_cases c4 : gI a 4 = 0
  · have c4' : gI b 4 = 0 := e4.symm.trans c4
    by_cases ci : L01 i
    · have si := h.2 2 i (by omega)
      have so := h.2 2 (1 - i) (by omega)
      by_cases d1 : gA a 2 i = 2
      · refine ⟨-4, a, b, ?_, ?_, ha, hb, h⟩
        · unfold X_failLeg; rw [if_pos c4, vl_e a ci, Option.bind_some, if_neg (by decide), chk2 ci, if_pos d1]
        · unfold X_failLeg; rw [if_pos c4', vl_e b ci, Option.bind_some, if_neg (by decide), chk2 ci, if_pos (si.symm.trans d1)]
      · have d1' : ¬ gA b 2 i = 2 := fun e => d1 (si.trans e)
        by_cases d2 : gA a 2 (1 - i) = 0
        · refine ⟨0, sA a 2 i 2, sA b 2 i 2, ?_, ?_, ha.st i 2 ci (by decide), hb.st i 2 ci (by decide), h.sA 2 i 2⟩
          · unfold X_failLeg; rw [if_pos c4, vl_e a ci, Option.bind_some, if_neg (by decide), chk2 ci, if_neg d1, chk2 (ot ci), if_pos d2, chk2 ci]
          · unfold X_failLeg; rw [if_pos c4', vl_e b ci, Option.bind_some, if_neg (by decide), chk2 ci, if_neg d1', chk2 (ot ci), if_pos (so.symm.trans d2), chk2 ci]
        · refine ⟨-4, a, b, ?_, ?_, ha, hb, h⟩
          · unfold X_failLeg; rw [if_pos c4, vl_e a ci, Option.bind_some, if_neg (by decide), chk2 ci, if_neg d1, chk2 (ot ci), if_neg d2]
          · unfold X_failLeg; rw [if_pos c4', vl_e b ci, Option.bind_some, if_neg (by decide), chk2 ci, if_neg d1', chk2 (ot ci), if_neg (fun e => d2 (so.trans e))]
    · refine ⟨-2, a, b, ?_, ?_, ha, hb, h⟩
      · unfold X_failLeg; rw [if_pos c4, vl_n a ci, Option.bind_some, if_pos rfl]
      · unfold X_failLeg; rw [if_pos c4', vl_n b ci, Option.bind_some, if_pos rfl]
  · have c4' : ¬ gI b 4 = 0 := fun e => c4 (e4.trans e)
    refine ⟨-1, a, b, ?_, ?_, ha, hb, h⟩
    · unfold X_failLeg; rw [if_neg c4]
    · unfold X_failLeg; rw [if_neg c4']
/-- checkDetached: the same code; 0 only for a detached leg, at rest -/
theorem cd2 {a b : Rec} (h : VE a b) (i : Int32) : ∃ r, X_checkDetached a i = some r ∧ X_checkDetached b i = some r ∧ (r = 0 → L01 i ∧ gI a 4 = 0 ∧ gI a 5 = 0) := by
  have e4 := h.1 4 (by omega)
  have e5 := h.1 5 (by omega)
  have si := h.2 2 i (by omega)
  have n1 : ¬ (-1 : Int32) = 0 := by decide
  have n2 : ¬ (-2 : Int32) = 0 := by decide
  have n3 : ¬ (-3 : Int32) = 0 := by decide
  have n4 : ¬ (-4 : Int32) = 0 := by decide
  unfold X_checkDetached
  rw [← e4, ← e5, ← si]
  by_cases c4 : gI a 4 = 0
  · rw [if_pos c4, if_pos c4]
    by_cases ci : L01 i
    · rw [vl_e a ci, vl_e b ci, Option.bind_some, if_neg (by decide)]
      by_cases c5 : gI a 5 = 0
      · rw [if_pos c5, chk2 ci]
        by_cases d : gA a 2 i = 2
        · rw [if_pos d]; exact ⟨0, rfl, rfl, fun _ => ⟨ci, c4, c5⟩⟩
        · rw [if_neg d]; exact ⟨-4, rfl, rfl, fun e => absurd e n4⟩
      · rw [if_neg c5]; exact ⟨-3, rfl, rfl, fun e => absurd e n3⟩
    · rw [vl_n a ci, vl_n b ci, Option.bind_some, if_pos rfl]; exact ⟨-2, rfl, rfl, fun e => absurd e n2⟩
  · rw [if_neg c4, if_neg c4]; exact ⟨-1, rfl, rfl, fun e => absurd e n1⟩
theorem reat2 {n ra rb : Int32} {a b : Rec} (ha : MI n ra a) (hb : MI n rb b) (h : VE a b) (i : Int32) : Two n ra rb (X_reattachLeg a i) (X_reattachLeg b i) := by
  obtain ⟨r, ea, eb, hr⟩ := cd2 h i
  unfold X_reattachLeg
  rw [ea, eb, Option.bind_some, Option.bind_some]
  by_cases c : r = 0
  · have ci := (hr c).1
    rw [if_pos c, if_pos c, chk2 ci, chk2 ci]
    exact ⟨0, _, _, rfl, rfl, ha.st i 1 ci (by decide), hb.st i 1 ci (by decide), h.sA 2 i 1⟩
  · rw [if_neg c, if_neg c]; exact ⟨r, a, b, rfl, rfl, ha, hb, h⟩
theorem i32b {i : Int32} (hi : L01 i) : i * 32 = 0 ∨ i * 32 = 32 := by
  rcases hi with rfl | rfl
  · exact Or.inl rfl
  · exact Or.inr rfl
theorem rp1 (NF : Nat) (hNF : 60 ≤ NF) {n rs i : Int32} {ob : Rec} (hn : NN n) (hrs : RS rs) (hm : MI n rs ob) (ci : L01 i) (h5 : gI ob 5 = 0) (ec : X_checkDetached ob i = some 0) : ∃ q, X_replaceLeg NF ob i = some (0, q) ∧ MI n rs q ∧ (∀ k, gI q k = gI ob k) ∧ (∀ x, gA q 1 x = gA ob 1 x) ∧ (∀ x, gA q 2 x = if x = i then 1 else gA ob 2 x) ∧ (∀ y, (∀ x, Kn n x → ¬ y = i * 32 + x) → gA q 0 y = gA ob 0 y) ∧ (∀ x, Kn n x → gA q 0 (i * 32 + x) = 0) := by
  have nb := n_b hn
  obtain ⟨⟨g0, g1, g3⟩, -, -, -⟩ := hm
  have T := tabM n hn rs hrs 0 (by decide)
  obtain ⟨q, eq, q1, q2, q3, -, q5⟩ := zl_l NF n (i * 32) hn (i32b ci) 12 NF ob 0 (by omega) (by decide) (by rw [t0]; omega) g0
  have qI : ∀ k, gI q k = gI ob k := fun k => by unfold gI; rw [q1]
  obtain ⟨p, ep, p1, -, p3⟩ := ma_l NF ((n + rs - 1) / rs) (by omega) 12 NF q 0 (by omega) (by decide) (by rw [t0]; omega) ((qI 3).trans g3)
  have pI : ∀ k, gI (sA p 2 i 1) k = gI ob k := fun k => (p1.n k).trans (qI k)
  have p2 : ∀ x, gA (sA p 2 i 1) 2 x = if x = i then 1 else gA ob 2 x := by
    intro x; rw [gA_sA]
    by_cases c : x = i
    · rw [if_pos ⟨rfl, c⟩, if_pos c]
    · rw [if_neg (fun h => c h.2), if_neg c, p1.2 2 x (by omega), q2 2 x (by decide)]
  refine ⟨sA p 2 i 1, ?_, ⟨⟨(pI 0).trans g0, (pI 1).trans g1, (pI 3).trans g3⟩, Or.inl ((pI 5).trans h5), fun x hx _ => ?_, fun a0 a1 _ => ?_⟩, pI, fun x => ?_, p2, fun y hy => ?_, fun x hx => ?_⟩
  · unfold X_replaceLeg
    rw [ec, Option.bind_some, if_pos rfl]
    unfold X_zeroLeg X_markAllDirty
    rw [eq, Option.bind_some, ep, Option.bind_some, chk2 ci]
  · have tx := tabM n hn rs hrs x (kM hn hx)
    have : gA (sA p 2 i 1) 3 (x / rs) = 1 := p3 (x / rs) (by rw [t0]; exact tx.2.1) (tx.1 hx.2)
    rw [this]; decide
  · rw [p2] at a0 a1
    rcases ci with rfl | rfl
    · rw [if_pos rfl] at a0; exact absurd a0 (by decide)
    · rw [if_pos rfl] at a1; exact absurd a1 (by decide)
  · show gA p 1 x = _
    rw [p1.2 1 x (by omega), q2 1 x (by decide)]
  · show gA p 0 y = _
    rw [p1.2 0 y (by omega), q3 y hy]
  · show gA p 0 (i * 32 + x) = _
    rw [p1.2 0 _ (by omega), q5 x hx (by rw [t0]; exact hx.1)]
theorem repl2 (NF : Nat) (hNF : 60 ≤ NF) {n ra rb : Int32} {a b : Rec} (hn : NN n) (hra : RS ra) (hrb : RS rb) (ha : MI n ra a) (hb : MI n rb b) (h : VE a b) (i : Int32) : Two n ra rb (X_replaceLeg NF a i) (X_replaceLeg NF b i) := by
  obtain ⟨r, ea, eb, hr⟩ := cd2 h i
  have nb := n_b hn
  by_cases c : r = 0
  · obtain ⟨ci, c4, c5⟩ := hr c
    have c5' : gI b 5 = 0 := (h.1 5 (by omega)).symm.trans c5
    rw [c] at ea eb
    obtain ⟨qa, fa, ma, a1, a2, a3, a4, a5⟩ := rp1 NF hNF hn hra ha ci c5 ea
    obtain ⟨qb, fb, mb, b1, b2, b3, b4, b5⟩ := rp1 NF hNF hn hrb hb ci c5' eb
    refine ⟨0, qa, qb, fa, fb, ma, mb, fun k hk => ?_, fun k x hk => ?_⟩
    · rw [a1, b1]; exact h.1 k hk
    · have hk' : k = 0 ∨ k = 1 ∨ k = 2 := by omega
      rcases hk' with rfl | rfl | rfl
      · by_cases e : ∃ y, Kn n y ∧ x = i * 32 + y
        · obtain ⟨y, hy, rfl⟩ := e
          rw [a5 y hy, b5 y hy]
        · have e' : ∀ y, Kn n y → ¬ x = i * 32 + y := fun y hy he => e ⟨y, hy, he⟩
          rw [a4 x e', b4 x e']; exact h.2 0 x (by omega)
      · rw [a2, b2]; exact h.2 1 x (by omega)
      · rw [a3, b3, h.2 2 x (by omega)]
  · unfold X_replaceLeg
    rw [ea, eb, Option.bind_some, Option.bind_some, if_neg c, if_neg c]
    exact ⟨r, a, b, rfl, rfl, ha, hb, h⟩
theorem rsy1 (NF : Nat) (hNF : 60 ≤ NF) {n rs i s d : Int32} {ob : Rec} (hn : NN n) (hrs : RS rs) (hm : MI n rs ob) (h4 : gI ob 4 = 0) (h5 : gI ob 5 = 0) (ci : L01 i) (hsd : SD s d) (es : (1 - i) * 32 = s) (ed : i * 32 = d) (ni : ¬ i = -1) (est : X_staleLeg ob = some i) : ∃ q, X_resync NF ob = some (0, q) ∧ MI n rs q ∧ (∀ k, gI q k = gI ob k) ∧ (∀ x, gA q 1 x = gA ob 1 x) ∧ (∀ x, gA q 2 x = if x = i then 0 else gA ob 2 x) ∧ (∀ y, (∀ x, Kn n x → ¬ y = d + x) → gA q 0 y = gA ob 0 y) ∧ (∀ x, Kn n x → gA q 0 (d + x) = gA ob 0 (s + x)) := by
  have nb := n_b hn
  obtain ⟨⟨g0, g1, g3⟩, -, i1, -⟩ := hm
  have T := tabM n hn rs hrs 0 (by decide)
  obtain ⟨p, ep, p1, p2⟩ := out_l NF (by omega) n s d hn hsd rs hrs 12 NF ob 0 (by omega) (by decide) (by rw [t0]; omega) g0 g1 g3
  obtain ⟨q, eq, bq⟩ := cb_l NF 32 NF p 0 (by omega) (by decide) (by rw [t0]; omega)
  have full : ∀ x, Kn n x → gA p 0 (d + x) = gA ob 0 (s + x) := by
    intro x hx
    by_cases e : gA ob 0 x = gA ob 0 (32 + x)
    · have e' : gA ob 0 (d + x) = gA ob 0 (s + x) := by
        rcases hsd with ⟨rfl, rfl⟩ | ⟨rfl, rfl⟩
        · rw [Int32.zero_add]; exact e.symm
        · rw [Int32.zero_add]; exact e
      rcases p1.2.2.2 x hx with f | f
      · exact f
      · exact f.trans e'
    · exact p2 x hx (by rw [t0]; exact (tabM n hn rs hrs x (kM hn hx)).2.1) (i1 x hx e)
  have q0 : ∀ y, gA (sA q 2 i 0) 0 y = gA p 0 y := fun y => bq.2 0 y (by omega)
  have eqL : ∀ x, Kn n x → gA (sA q 2 i 0) 0 x = gA (sA q 2 i 0) 0 (32 + x) := by
    intro x hx
    have u := full x hx
    have w := p1.src hn hsd hx
    rw [q0, q0]
    rcases hsd with ⟨rfl, rfl⟩ | ⟨rfl, rfl⟩
    · rw [Int32.zero_add] at u w; rw [u, w]
    · rw [Int32.zero_add] at u; rw [u, w]
  have qI : ∀ k, gI (sA q 2 i 0) k = gI ob k := fun k => by
    show gI q k = _
    rw [bq.n k]; unfold gI; rw [p1.1]
  refine ⟨sA q 2 i 0, ?_, ⟨⟨(qI 0).trans g0, (qI 1).trans g1, (qI 3).trans g3⟩, Or.inl ((qI 5).trans h5), fun x hx e => absurd (eqL x hx) e, fun _ _ _ => ⟨fun x hx e => absurd (eqL x hx) e, fun e => ?_⟩⟩, qI, fun x => ?_, fun x => ?_, fun y hy => ?_, fun x hx => ?_⟩
  · unfold X_resync
    rw [if_pos h4, if_pos h5, est, Option.bind_some, if_neg ni]
    unfold X_copyDirtyRegions
    rw [es, ed, ep, Option.bind_some]
    unfold X_clearBitmap
    rw [eq, Option.bind_some, chk2 ci]
  · rw [qI 5, h5] at e; exact absurd e (by decide)
  · show gA q 1 x = _
    rw [bq.2 1 x (by omega), p1.2.1 1 x (by decide)]
  · rw [gA_sA]
    by_cases c : x = i
    · rw [if_pos ⟨rfl, c⟩, if_pos c]
    · rw [if_neg (fun h => c h.2), if_neg c, bq.2 2 x (by omega), p1.2.1 2 x (by decide)]
  · rw [q0, p1.2.2.1 y hy]
  · rw [q0, full x hx]
theorem resync2 (NF : Nat) (hNF : 60 ≤ NF) {n ra rb : Int32} {a b : Rec} (hn : NN n) (hra : RS ra) (hrb : RS rb) (ha : MI n ra a) (hb : MI n rb b) (h : VE a b) : Two n ra rb (X_resync NF a) (X_resync NF b) := by
  have nb := n_b hn
  have e4 := h.1 4 (by omega)
  have e5 := h.1 5 (by omega)
  have s0 := h.2 2 0 (by omega)
  have s1 := h.2 2 1 (by omega)
  by_cases c4 : gI a 4 = 0
  · have c4' : gI b 4 = 0 := e4.symm.trans c4
    by_cases c5 : gI a 5 = 0
    · have c5' : gI b 5 = 0 := e5.symm.trans c5
      have two : ∀ (i s d : Int32), L01 i → SD s d → (1 - i) * 32 = s → i * 32 = d → ¬ i = -1 → X_staleLeg a = some i → X_staleLeg b = some i → Two n ra rb (X_resync NF a) (X_resync NF b) := by
        intro i s d ci hsd es ed ni eA eB
        obtain ⟨qa, fa, ma, a1, a2, a3, a4, a5⟩ := rsy1 NF hNF hn hra ha c4 c5 ci hsd es ed ni eA
        obtain ⟨qb, fb, mb, b1, b2, b3, b4, b5⟩ := rsy1 NF hNF hn hrb hb c4' c5' ci hsd es ed ni eB
        refine ⟨0, qa, qb, fa, fb, ma, mb, fun k hk => ?_, fun k x hk => ?_⟩
        · rw [a1, b1]; exact h.1 k hk
        · have hk' : k = 0 ∨ k = 1 ∨ k = 2 := by omega
          rcases hk' with rfl | rfl | rfl
          · by_cases e : ∃ y, Kn n y ∧ x = d + y
            · obtain ⟨y, hy, rfl⟩ := e
              rw [a5 y hy, b5 y hy]; exact h.2 0 _ (by omega)
            · have e' : ∀ y, Kn n y → ¬ x = d + y := fun y hy he => e ⟨y, hy, he⟩
              rw [a4 x e', b4 x e']; exact h.2 0 x (by omega)
          · rw [a2, b2]; exact h.2 1 x (by omega)
          · rw [a3, b3, h.2 2 x (by omega)]
      by_cases d0 : gA a 2 0 = 1
      · refine two 0 32 0 (Or.inl rfl) (Or.inr ⟨rfl, rfl⟩) rfl rfl (by decide) ?_ ?_
        · unfold X_staleLeg; rw [chk_ok (by decide), if_pos d0]
        · unfold X_staleLeg; rw [chk_ok (by decide), if_pos (s0.symm.trans d0)]
      · have d0' : ¬ gA b 2 0 = 1 := fun e => d0 (s0.trans e)
        by_cases d1 : gA a 2 1 = 1
        · refine two 1 0 32 (Or.inr rfl) (Or.inl ⟨rfl, rfl⟩) rfl rfl (by decide) ?_ ?_
          · unfold X_staleLeg; rw [chk_ok (by decide), if_neg d0, chk_ok (by decide), if_pos d1]
          · unfold X_staleLeg; rw [chk_ok (by decide), if_neg d0', chk_ok (by decide), if_pos (s1.symm.trans d1)]
        · have d1' : ¬ gA b 2 1 = 1 := fun e => d1 (s1.trans e)
          refine ⟨-4, a, b, ?_, ?_, ha, hb, h⟩
          · unfold X_resync X_staleLeg; rw [if_pos c4, if_pos c5, chk_ok (by decide), if_neg d0, chk_ok (by decide), if_neg d1, Option.bind_some, if_pos rfl]
          · unfold X_resync X_staleLeg; rw [if_pos c4', if_pos c5', chk_ok (by decide), if_neg d0', chk_ok (by decide), if_neg d1', Option.bind_some, if_pos rfl]
    · have c5' : ¬ gI b 5 = 0 := fun e => c5 (e5.trans e)
      refine ⟨-3, a, b, ?_, ?_, ha, hb, h⟩
      · unfold X_resync; rw [if_pos c4, if_neg c5]
      · unfold X_resync; rw [if_pos c4', if_neg c5']
  · have c4' : ¬ gI b 4 = 0 := fun e => c4 (e4.trans e)
    refine ⟨-1, a, b, ?_, ?_, ha, hb, h⟩
    · unfold X_resync; rw [if_neg c4]
    · unfold X_resync; rw [if_neg c4']
theorem ne32 {n x y : Int32} (hn : NN n) (hx : Kn n x) (hy : Kn n y) : ¬ x = 32 + y := by
  intro e
  have := SD.ne (n := n) (s := 0) (d := 32) (Or.inl ⟨rfl, rfl⟩) hn hx hy
  rw [Int32.zero_add] at this
  exact this e
theorem lw0_mi {n rs : Int32} {ob : Rec} (hn : NN n) (h : MI n rs ob) (h5 : gI ob 5 = 1) (h8 : gI ob 8 = 0) : MI n rs (sI (sA ob 0 (gI ob 6) (gI ob 7)) 8 1) := by
  obtain ⟨g, bz, i1, i2⟩ := h
  rcases bz with e | ⟨-, h4, kb, -, hd⟩
  · rw [h5] at e; exact absurd e (by decide)
  have vx : ∀ x, ¬ x = gI ob 6 → gA (sI (sA ob 0 (gI ob 6) (gI ob 7)) 8 1) 0 x = gA ob 0 x := fun x hx => by
    rw [gA_sI, gA_sA, if_neg (fun h => hx h.2)]
  have vy : ∀ x, Kn n x → gA (sI (sA ob 0 (gI ob 6) (gI ob 7)) 8 1) 0 (32 + x) = gA ob 0 (32 + x) := fun x hx => vx _ (fun e => ne32 hn kb hx e.symm)
  refine ⟨g, Or.inr ⟨h5, h4, kb, Or.inr (Or.inl rfl), hd⟩, fun x hx e => ?_, fun a0 a1 a4 => ⟨fun x hx e => ?_, fun _ _ => ?_⟩⟩
  · by_cases c : x = gI ob 6
    · rw [c]; exact hd
    · rw [vx x c, vy x hx] at e; exact i1 x hx e
  · by_cases c : x = gI ob 6
    · exact ⟨h5, c, rfl⟩
    · rw [vx x c, vy x hx] at e
      have := ((i2 a0 a1 h4).1 x hx e).2.2
      rw [h8] at this; exact absurd this (by decide)
  · show gA (sI (sA ob 0 (gI ob 6) (gI ob 7)) 8 1) 0 (gI ob 6) = gI ob 7
    rw [gA_sI, gA_sA, if_pos ⟨rfl, rfl⟩]
theorem lw1_mi {n rs : Int32} {ob : Rec} (hn : NN n) (h : MI n rs ob) (h5 : gI ob 5 = 1) (h8 : gI ob 8 = 1) : MI n rs (sI (sA ob 0 (32 + gI ob 6) (gI ob 7)) 8 2) := by
  obtain ⟨g, bz, i1, i2⟩ := h
  rcases bz with e | ⟨-, h4, kb, -, hd⟩
  · rw [h5] at e; exact absurd e (by decide)
  have vx : ∀ x, Kn n x → gA (sI (sA ob 0 (32 + gI ob 6) (gI ob 7)) 8 2) 0 x = gA ob 0 x := fun x hx => by
    rw [gA_sI, gA_sA, if_neg (fun h => ne32 hn hx kb h.2)]
  have vy : ∀ x, Kn n x → ¬ x = gI ob 6 → gA (sI (sA ob 0 (32 + gI ob 6) (gI ob 7)) 8 2) 0 (32 + x) = gA ob 0 (32 + x) := fun x hx c => by
    rw [gA_sI, gA_sA, if_neg (fun h => c (bs_inj hn (Or.inr rfl) hx kb h.2))]
  have vb : gA (sI (sA ob 0 (32 + gI ob 6) (gI ob 7)) 8 2) 0 (32 + gI ob 6) = gI ob 7 := by rw [gA_sI, gA_sA, if_pos ⟨rfl, rfl⟩]
  refine ⟨g, Or.inr ⟨h5, h4, kb, Or.inr (Or.inr rfl), hd⟩, fun x hx e => ?_, fun a0 a1 a4 => ⟨fun x hx e => ?_, fun _ e => absurd e (by show ¬ (2 : Int32) = 1; decide)⟩⟩
  · by_cases c : x = gI ob 6
    · rw [c]; exact hd
    · rw [vx x hx, vy x hx c] at e; exact i1 x hx e
  · by_cases c : x = gI ob 6
    · rw [c, vx _ kb, vb] at e
      exact absurd ((i2 a0 a1 h4).2 h5 h8) e
    · rw [vx x hx, vy x hx c] at e
      exact absurd ((i2 a0 a1 h4).1 x hx e).2.1 c
theorem mi8 {n rs : Int32} {ob : Rec} (h : MI n rs ob) (hs : ¬ (gA ob 2 0 = 0 ∧ gA ob 2 1 = 0)) (c : Int32) (hc : c = 0 ∨ c = 1 ∨ c = 2) : MI n rs (sI ob 8 c) := by
  obtain ⟨g, bz, i1, i2⟩ := h
  refine ⟨g, ?_, i1, fun a0 a1 _ => absurd ⟨a0, a1⟩ hs⟩
  rcases bz with e | ⟨e5, e4, kb, -, hd⟩
  · exact Or.inl e
  · exact Or.inr ⟨e5, e4, kb, hc, hd⟩
theorem ack_e (NF : Nat) (hNF : 60 ≤ NF) {n rs : Int32} {ob : Rec} (hn : NN n) (hrs : RS rs) (h : MI n rs ob) (h5 : gI ob 5 = 1) (h8 : gI ob 8 = 2) : ∃ q, X_acknowledge NF ob = some q ∧ MI n rs q ∧ VE q (cl (sA ob 1 (gI ob 6) (gI ob 7))) := by
  obtain ⟨⟨g0, g1, g3⟩, bz, i1, i2⟩ := h
  rcases bz with e | ⟨-, h4, kb, -, hd⟩
  · rw [h5] at e; exact absurd e (by decide)
  have nb := n_b hn
  have kb0 := kb.1
  have kb1 := kb.2
  have T := tabM n hn rs hrs (gI ob 6) (kM hn kb)
  obtain ⟨A, eA, A1, A2⟩ := ao_l NF ((n + rs - 1) / rs) (gI ob 6 / rs) (by omega) 12 NF (cl (sA ob 1 (gI ob 6) (gI ob 7))) 0 (by omega) (by decide) (by rw [t0]; omega) g3
  have AI : ∀ k, gI A k = gI (cl (sA ob 1 (gI ob 6) (gI ob 7))) k := fun k => congrFun A1 k
  generalize hB : sA (sA A 4 (gI ob 6 / rs) 1) 5 (gI ob 6 / rs) 0 = B
  have BI : ∀ k, gI B k = gI (cl (sA ob 1 (gI ob 6) (gI ob 7))) k := fun k => by rw [← hB]; exact AI k
  have BA : ∀ (k : Nat) (x : Int32), k < 4 → gA B k x = gA (sA ob 1 (gI ob 6) (gI ob 7)) k x := by
    intro k x hk
    rw [← hB, gA_sA, if_neg (fun h => by have := h.1; omega), gA_sA, if_neg (fun h => by have := h.1; omega), A2 k x (by omega)]; rfl
  have BA' : ∀ (k : Nat) (x : Int32), k < 4 → ¬ k = 1 → gA B k x = gA ob k x := by
    intro k x hk hk1; rw [BA k x hk, gA_sA, if_neg (fun h => hk1 h.1)]
  have c : ∀ A : Option Rec, chk 32 (gI ob 6 / rs) A = A := fun A => chk_ok (by rw [t32]; omega)
  have pre : X_acknowledge NF ob = (X_bothActive B).bind fun r9 => if r9 = 0 then some B else (X_clearAged NF B).bind fun q12 => some q12 := by
    unfold X_acknowledge X_clearPending dvz
    have e1 : gI (sI (sI (sI (sI (sA ob 1 (gI ob 6) (gI ob 7)) 5 0) 6 (-1)) 7 0) 8 (-1)) 1 = rs := g1
    have eA' : X_ageOthers NF (sI (sI (sI (sI (sA ob 1 (gI ob 6) (gI ob 7)) 5 0) 6 (-1)) 7 0) 8 (-1)) (gI ob 6 / rs) = some A := eA
    rw [chk_ok (by rw [t32]; omega), Option.bind_some, e1, if_neg T.2.2.2.2.2.2.2.1, eA', Option.bind_some, c, c, hB]
  have veB : VE B (cl (sA ob 1 (gI ob 6) (gI ob 7))) := ⟨fun k _ => BI k, fun k x hk => BA k x (by omega)⟩
  by_cases s : gA ob 2 0 = 0 ∧ gA ob 2 1 = 0
  · have ba : X_bothActive B = some 1 := by
      unfold X_bothActive
      rw [chk_ok (by decide), if_pos ((BA' 2 0 (by omega) (by decide)).trans s.1), chk_ok (by decide), if_pos ((BA' 2 1 (by omega) (by decide)).trans s.2)]
    obtain ⟨q, eq, bq⟩ := ca_l NF ((n + rs - 1) / rs) (by omega) 12 NF B 0 (by omega) (by decide) (by rw [t0]; omega) ((BI 3).trans g3)
    have eqL : ∀ x, Kn n x → gA q 0 x = gA q 0 (32 + x) := by
      intro x hx
      rw [bq.2 0 x (by omega), bq.2 0 _ (by omega), BA' 0 _ (by omega) (by decide), BA' 0 _ (by omega) (by decide)]
      apply Classical.byContradiction
      intro e
      have := ((i2 s.1 s.2 h4).1 x hx e).2.2
      rw [h8] at this; exact absurd this (by decide)
    have q5 : gI q 5 = 0 := (bq.n 5).trans ((BI 5).trans rfl)
    refine ⟨q, ?_, ⟨⟨(bq.n 0).trans ((BI 0).trans g0), (bq.n 1).trans ((BI 1).trans g1), (bq.n 3).trans ((BI 3).trans g3)⟩, Or.inl q5, fun x hx e => absurd (eqL x hx) e, fun _ _ _ => ⟨fun x hx e => absurd (eqL x hx) e, fun e => ?_⟩⟩, bq.ve.trans veB⟩
    · rw [pre, ba, Option.bind_some, if_neg (by decide)]
      unfold X_clearAged
      rw [eq]; rfl
    · rw [q5] at e; exact absurd e (by decide)
  · have ba : X_bothActive B = some 0 := by
      unfold X_bothActive
      rw [chk_ok (by decide), BA' 2 0 (by omega) (by decide), chk_ok (by decide), BA' 2 1 (by omega) (by decide)]
      by_cases s0 : gA ob 2 0 = 0
      · rw [if_pos s0, if_neg (fun e => s ⟨s0, e⟩)]
      · rw [if_neg s0]
    have B5 : gI B 5 = 0 := (BI 5).trans rfl
    refine ⟨B, ?_, ⟨⟨(BI 0).trans g0, (BI 1).trans g1, (BI 3).trans g3⟩, Or.inl B5, fun x hx e => ?_, fun a0 a1 _ => absurd ⟨(BA' 2 0 (by omega) (by decide)).symm.trans a0, (BA' 2 1 (by omega) (by decide)).symm.trans a1⟩ s⟩, veB⟩
    · rw [pre, ba, Option.bind_some, if_pos rfl]
    · rw [BA' 3 _ (by omega) (by decide)]
      rw [BA' 0 _ (by omega) (by decide), BA' 0 _ (by omega) (by decide)] at e
      exact i1 x hx e
/-- the four roads of step -/
theorem sp_0 (NF : Nat) (hNF : 60 ≤ NF) {n : Int32} {ob : Rec} (hn : NN n) (h4 : gI ob 4 = 0) (h5 : gI ob 5 = 1) (kb : Kn n (gI ob 6)) (h8 : gI ob 8 = 0) (hs : ¬ gA ob 2 0 = 2) : X_step NF ob = some (1, sI (sA ob 0 (gI ob 6) (gI ob 7)) 8 1) := by
  obtain ⟨f, rfl⟩ : ∃ f, NF = f + 1 := ⟨NF - 1, by omega⟩
  have nb := n_b hn; have := kb.1; have := kb.2
  have z : (0 * 32 + gI ob 6 : Int32) = gI ob 6 := by rw [Int32.zero_mul, Int32.zero_add]
  unfold X_step; rw [if_pos h4, h5, if_neg (by decide)]
  show X_step_w19 (f + 1) (X_step_l19 (f + 1) f) ob = _
  unfold X_step_w19 X_step_b53
  rw [h8, if_neg (by decide), chk_ok (by decide), if_neg hs, if_neg (by decide), z, chk_ok (by rw [t64]; omega), if_pos rfl]; rfl
theorem b53_1 (NF : Nat) {n : Int32} {ob : Rec} (hn : NN n) (kb : Kn n (gI ob 6)) (h8 : gI ob 8 = 1) : X_step_b53 NF ob = some (2, sI (sA ob 0 (32 + gI ob 6) (gI ob 7)) 8 2) := by
  have z : (1 * 32 + gI ob 6 : Int32) = 32 + gI ob 6 := rfl
  have e := bs hn (s := 32) (Or.inr rfl) kb
  have nb := n_b hn; have := kb.1; have := kb.2
  rw [t32] at e
  unfold X_step_b53
  rw [h8, if_neg (by decide), z, chk_ok (by rw [t64, e]; omega), if_neg (by decide)]; rfl
theorem b53_2 (NF : Nat) {ob : Rec} (h8 : gI ob 8 = 2) : X_step_b53 NF ob = (X_acknowledge NF ob).bind fun q => some (3, q) := by
  unfold X_step_b53; rw [h8, if_pos (by decide)]
theorem l19_b {NF f : Nat} {ob : Rec} (c : Int32) (h8 : gI ob 8 = c) (h : c = 2 ∨ (L01 c ∧ ¬ gA ob 2 c = 2)) : X_step_l19 NF (f + 1) ob = X_step_b53 NF ob := by
  show X_step_w19 NF _ ob = _
  unfold X_step_w19
  rcases h with rfl | ⟨hc, hs⟩
  · rw [h8, if_pos (by decide)]
  · rw [h8, if_neg (by rcases hc with rfl | rfl <;> decide), chk2 hc, if_neg hs]
theorem l19_s {NF f : Nat} {ob : Rec} (c c' : Int32) (h8 : gI ob 8 = c) (hc : L01 c) (hs : gA ob 2 c = 2) (e : c + 1 = c') : X_step_l19 NF (f + 1) ob = X_step_l19 NF f (sI ob 8 c') := by
  show X_step_w19 NF _ ob = _
  unfold X_step_w19
  rw [h8, if_neg (by rcases hc with rfl | rfl <;> decide), chk2 hc, if_pos hs, e]
/-- where the cursor stands when step acts -/
theorem sk (NF : Nat) (hNF : 60 ≤ NF) {n rs : Int32} {ob : Rec} (h : MI n rs ob) (h4 : gI ob 4 = 0) (h5 : gI ob 5 = 1) : ∃ c, (c = 0 ∨ c = 1 ∨ c = 2) ∧ X_step NF ob = X_step_b53 NF (sI ob 8 c) ∧ MI n rs (sI ob 8 c) ∧ c = (if gI ob 8 = 0 then (if gA ob 2 0 = 2 then (if gA ob 2 1 = 2 then 2 else 1) else 0) else if gI ob 8 = 1 then (if gA ob 2 1 = 2 then 2 else 1) else 2) ∧ (c = 0 → gI ob 8 = 0 ∧ ¬ gA ob 2 0 = 2) := by
  obtain ⟨f, rfl⟩ : ∃ f, NF = f + 3 := ⟨NF - 3, by omega⟩
  have hm := h
  obtain ⟨g, bz, -, -⟩ := h
  have st : X_step (f + 3) ob = X_step_l19 (f + 3) (f + 2 + 1) ob := by
    unfold X_step; rw [if_pos h4, h5, if_neg (by decide)]
  have id8 : ∀ c : Int32, gI ob 8 = c → sI ob 8 c = ob := by
    intro c hc
    have : (fun j => if j = 8 then c else ob.1 j) = ob.1 := by
      funext j
      by_cases e : j = 8
      · rw [if_pos e, e]; exact hc.symm
      · rw [if_neg e]
    unfold sI
    rw [this]
  have two : ∀ (o : Rec) (c : Int32), sI (sI o 8 1) 8 c = sI o 8 c := by
    intro o c
    unfold sI
    congr 1
    funext j
    by_cases e : j = 8
    · simp [e]
    · simp [e]
  rcases bz with e | ⟨-, -, -, hc, -⟩
  · rw [h5] at e; exact absurd e (by decide)
  rcases hc with h8 | h8 | h8
  · by_cases s0 : gA ob 2 0 = 2
    · have na : ¬ (gA ob 2 0 = 0 ∧ gA ob 2 1 = 0) := fun x => by rw [s0] at x; exact absurd x.1 (by decide)
      by_cases s1 : gA ob 2 1 = 2
      · refine ⟨2, Or.inr (Or.inr rfl), ?_, mi8 hm na 2 (Or.inr (Or.inr rfl)), by rw [if_pos h8, if_pos s0, if_pos s1], fun e => absurd e (by decide)⟩
        rw [st, l19_s 0 1 h8 (Or.inl rfl) s0 rfl, l19_s (ob := sI ob 8 1) 1 2 rfl (Or.inr rfl) s1 rfl, l19_b (ob := sI (sI ob 8 1) 8 2) 2 rfl (Or.inl rfl), two]
      · refine ⟨1, Or.inr (Or.inl rfl), ?_, mi8 hm na 1 (Or.inr (Or.inl rfl)), by rw [if_pos h8, if_pos s0, if_neg s1], fun e => absurd e (by decide)⟩
        rw [st, l19_s 0 1 h8 (Or.inl rfl) s0 rfl, l19_b (ob := sI ob 8 1) 1 rfl (Or.inr ⟨Or.inr rfl, s1⟩)]
    · refine ⟨0, Or.inl rfl, ?_, by rw [id8 0 h8]; exact hm, by rw [if_pos h8, if_neg s0], fun _ => ⟨h8, s0⟩⟩
      rw [st, l19_b 0 h8 (Or.inr ⟨Or.inl rfl, s0⟩), id8 0 h8]
  · have n8 : ¬ gI ob 8 = 0 := by rw [h8]; decide
    by_cases s1 : gA ob 2 1 = 2
    · have na : ¬ (gA ob 2 0 = 0 ∧ gA ob 2 1 = 0) := fun x => by rw [s1] at x; exact absurd x.2 (by decide)
      refine ⟨2, Or.inr (Or.inr rfl), ?_, mi8 hm na 2 (Or.inr (Or.inr rfl)), by rw [if_neg n8, if_pos h8, if_pos s1], fun e => absurd e (by decide)⟩
      rw [st, l19_s 1 2 h8 (Or.inr rfl) s1 rfl, l19_b (ob := sI ob 8 2) 2 rfl (Or.inl rfl)]
    · refine ⟨1, Or.inr (Or.inl rfl), ?_, by rw [id8 1 h8]; exact hm, by rw [if_neg n8, if_pos h8, if_neg s1], fun e => absurd e (by decide)⟩
      rw [st, l19_b 1 h8 (Or.inr ⟨Or.inr rfl, s1⟩), id8 1 h8]
  · have n8 : ¬ gI ob 8 = 0 := by rw [h8]; decide
    have n81 : ¬ gI ob 8 = 1 := by rw [h8]; decide
    refine ⟨2, Or.inr (Or.inr rfl), ?_, by rw [id8 2 h8]; exact hm, by rw [if_neg n8, if_neg n81], fun e => absurd e (by decide)⟩
    rw [st, l19_b 2 h8 (Or.inl rfl), id8 2 h8]
theorem MI.kb {n rs : Int32} {ob : Rec} (h : MI n rs ob) (h5 : gI ob 5 = 1) : Kn n (gI ob 6) := by
  rcases h.2.1 with e | ⟨-, -, kb, -, -⟩
  · rw [h5] at e; exact absurd e (by decide)
  · exact kb
theorem step2 (NF : Nat) (hNF : 60 ≤ NF) {n ra rb : Int32} {a b : Rec} (hn : NN n) (hra : RS ra) (hrb : RS rb) (ha : MI n ra a) (hb : MI n rb b) (h : VE a b) : Two n ra rb (X_step NF a) (X_step NF b) := by
  have e4 := h.1 4 (by omega)
  have e5 := h.1 5 (by omega)
  have e8 := h.1 8 (by omega)
  have s0 := h.2 2 0 (by omega)
  have s1 := h.2 2 1 (by omega)
  by_cases c4 : gI a 4 = 0
  · have c4' : gI b 4 = 0 := e4.symm.trans c4
    by_cases c5 : gI a 5 = 0
    · have c5' : gI b 5 = 0 := e5.symm.trans c5
      refine ⟨-5, a, b, ?_, ?_, ha, hb, h⟩
      · unfold X_step; rw [if_pos c4, if_pos c5]
      · unfold X_step; rw [if_pos c4', if_pos c5']
    · have h5 : gI a 5 = 1 := by
        rcases ha.2.1 with e | e
        · exact absurd e c5
        · exact e.1
      have h5' : gI b 5 = 1 := e5.symm.trans h5
      obtain ⟨c, hc, ea, ma, va, ka⟩ := sk NF hNF ha c4 h5
      obtain ⟨c', hc', eb, mb, vb, kb⟩ := sk NF hNF hb c4' h5'
      have cc : c' = c := by rw [va, vb, ← e8, ← s0, ← s1]
      subst cc
      have hv : VE (sI a 8 c') (sI b 8 c') := h.sI 8 c'
      rw [ea, eb]
      have e6 : gI a 6 = gI b 6 := h.1 6 (by omega)
      have e7 : gI a 7 = gI b 7 := h.1 7 (by omega)
      have kA : Kn n (gI (sI a 8 c') 6) := ha.kb h5
      have kB : Kn n (gI (sI b 8 c') 6) := hb.kb h5'
      rcases hc with rfl | rfl | rfl
      · rw [← ea, ← eb]
        refine ⟨1, _, _, sp_0 NF hNF hn c4 h5 (ha.kb h5) (ka rfl).1 (ka rfl).2, sp_0 NF hNF hn c4' h5' (hb.kb h5') (kb rfl).1 (kb rfl).2, lw0_mi hn ha h5 (ka rfl).1, lw0_mi hn hb h5' (kb rfl).1, ?_⟩
        rw [← e6, ← e7]
        exact (h.sA 0 _ _).sI 8 1
      · refine ⟨2, _, _, b53_1 NF hn kA rfl, b53_1 NF hn kB rfl, lw1_mi hn ma h5 rfl, lw1_mi hn mb h5' rfl, ?_⟩
        have f6 : gI (sI a 8 1) 6 = gI (sI b 8 1) 6 := e6
        have f7 : gI (sI a 8 1) 7 = gI (sI b 8 1) 7 := e7
        rw [← f6, ← f7]
        exact (hv.sA 0 _ _).sI 8 2
      · obtain ⟨qa, fa, mA, vA⟩ := ack_e NF hNF hn hra ma h5 rfl
        obtain ⟨qb, fb, mB, vB⟩ := ack_e NF hNF hn hrb mb h5' rfl
        refine ⟨3, qa, qb, ?_, ?_, mA, mB, ?_⟩
        · rw [b53_2 NF rfl, fa, Option.bind_some]
        · rw [b53_2 NF rfl, fb, Option.bind_some]
        · have f6 : gI (sI a 8 2) 6 = gI (sI b 8 2) 6 := e6
          have f7 : gI (sI a 8 2) 7 = gI (sI b 8 2) 7 := e7
          refine vA.trans (VE.trans ?_ vB.symm)
          rw [← f6, ← f7]
          exact cl_ve (hv.sA 1 _ _)
  · have c4' : ¬ gI b 4 = 0 := fun e => c4 (e4.trans e)
    refine ⟨-1, a, b, ?_, ?_, ha, hb, h⟩
    · unfold X_step; rw [if_neg c4]
    · unfold X_step; rw [if_neg c4']
-- USE: fld mr mrs
theorem ofN {k : Nat} (h : k ≤ 1000) : (Int32.ofNat k).toInt = k := Int32.toInt_ofNat_of_lt (by omega)
theorem ofI {i : Int32} (h : 0 ≤ i.toInt ∧ i.toInt ≤ 1000) : Int32.ofNat i.toInt.toNat = i := by
  rw [eq_i32, ofN (by omega)]; omega
theorem t12 : (12 : Int32).toInt = 12 := rfl
theorem N12 : NN 12 := by decide
theorem pos5 : ∀ n ∈ List.range 12, ((((5 : Int32) * Int32.ofNat n) &&& 0x3f).toInt64.toUInt64.toBitVec % 64).toNat = 5 * n ∧ ((((5 : Int32) * Int32.ofNat n) &&& 0x3f).toInt64.toBitVec.smod 64).toNat = 5 * n := by decide +kernel
theorem pos5' {x : Int32} (hx : Kn 12 x) : ((((5 : Int32) * x) &&& 0x3f).toInt64.toUInt64.toBitVec % 64).toNat = 5 * x.toInt.toNat ∧ ((((5 : Int32) * x) &&& 0x3f).toInt64.toBitVec.smod 64).toNat = 5 * x.toInt.toNat := by
  have h0 := hx.1; have h1 := hx.2
  rw [t12] at h1
  have := pos5 x.toInt.toNat (List.mem_range.mpr (by omega))
  rw [ofI (by omega)] at this
  exact this
theorem m31 (i : Nat) : (31 : Int64).toBitVec.getLsbD i = decide (i < 5) := by
  have h : ∀ i ∈ List.range 64, (31 : Int64).toBitVec.getLsbD i = decide (i < 5) := by decide +kernel
  by_cases c : i < 64
  · exact h i (List.mem_range.mpr c)
  · rw [BitVec.getLsbD_of_ge _ i (by omega)]
    have : ¬ i < 5 := by omega
    simp [this]
abbrev V5 (v : Int32) : Prop := 0 ≤ v.toInt ∧ v.toInt < 2 ^ 5
/-- the long l holds the twelve values g -/
def FB (l : Int64) (g : Int32 → Int32) : Prop := ∀ x, Kn 12 x → V5 (g x) ∧ fb l (5 * x.toInt.toNat) 5 (g x)
theorem get_e {l : Int64} {g : Int32 → Int32} (h : FB l g) {x : Int32} (hx : Kn 12 x) : L_get l x = some (g x) := by
  unfold L_get
  rw [fb_get l 31 _ (g x) _ 5 (pos5' hx).1 m31 (h x hx).1 (by omega) (h x hx).2]
theorem put_e {l : Int64} {g : Int32 → Int32} (h : FB l g) {x v : Int32} (hx : Kn 12 x) (hv : V5 v) : ∃ r, L_put l x v = some r ∧ FB r (fun y => if y = x then v else g y) := by
  refine ⟨_, rfl, fun y hy => ?_⟩
  have hx0 := hx.1; have hx1 := hx.2; have hy0 := hy.1; have hy1 := hy.2
  rw [t12] at hx1 hy1
  obtain ⟨c1, c2⟩ := fb_clr l 31 (((5 : Int32) * x) &&& 0x3f).toInt64 (5 * x.toInt.toNat) 5 (pos5' hx).2 m31 (by omega)
  obtain ⟨o1, o2, -⟩ := fb_or (l &&& (((31 : Int64) <<< (((5 : Int32) * x) &&& 0x3f).toInt64) ^^^ (-1 : Int64))) v (((5 : Int32) * x) &&& 0x3f).toInt64 (5 * x.toInt.toNat) 5 (pos5' hx).2 hv (by omega) (by omega)
  by_cases c : y = x
  · show V5 (if y = x then v else g y) ∧ fb _ _ 5 (if y = x then v else g y)
    rw [if_pos c, c]
    exact ⟨hv, o1 c1⟩
  · show V5 (if y = x then v else g y) ∧ fb _ _ 5 (if y = x then v else g y)
    rw [if_neg c]
    have ne : y.toInt ≠ x.toInt := fun e => c (eq_i32.mpr e)
    exact ⟨(h y hy).1, o2 _ _ (c2 _ _ (h y hy).2 (by omega) (by omega)) (by omega)⟩
theorem FB.c {l : Int64} {g g' : Int32 → Int32} (h : FB l g) (e : ∀ x, Kn 12 x → g' x = g x) : FB l g' := fun x hx => by rw [e x hx]; exact h x hx
theorem FB0 {g : Int32 → Int32} (e : ∀ x, Kn 12 x → g x = 0) : FB 0 g := fun x hx => by rw [e x hx]; exact ⟨by decide, fb0 _ _⟩
abbrev ST (s : Int32) : Prop := s = 0 ∨ s = 1 ∨ s = 2
def J (rs : Int32) (ob : Rec) (l0 l1 ak : Int64) (s0 s1 pb pv pc pend down : Int32) : Prop :=
  MI 12 rs ob ∧ (gA ob 2 0 = s0 ∧ gA ob 2 1 = s1 ∧ gI ob 4 = down ∧ gI ob 5 = pend) ∧ (down = 0 ∨ down = 1) ∧ (pend = 0 ∨ pend = 1) ∧ (pend = 1 → gI ob 6 = pb ∧ gI ob 7 = pv ∧ gI ob 8 = pc ∧ V5 pv) ∧ (ST s0 ∧ ST s1 ∧ (s0 = 0 ∨ s1 = 0)) ∧ FB l0 (fun x => gA ob 0 x) ∧ FB l1 (fun x => gA ob 0 (32 + x)) ∧ FB ak (fun x => gA ob 1 x)
theorem pk_0 {ob : Rec} {b : Int32} (h0 : gI ob 0 = 12) (hb : Kn 12 b) : X_peek ob 0 b = some (gA ob 0 b) := by
  have u := hb.1; have w := hb.2
  rw [t12] at w
  have z : (0 * 32 + b : Int32) = b := by rw [Int32.zero_mul, Int32.zero_add]
  unfold X_peek
  rw [vl_e ob (Or.inl rfl), Option.bind_some, if_neg (by decide), vb_e h0 hb, Option.bind_some, if_neg (by decide), z, chk_ok (by rw [t64]; omega)]
theorem pk_1 {ob : Rec} {b : Int32} (h0 : gI ob 0 = 12) (hb : Kn 12 b) : X_peek ob 1 b = some (gA ob 0 (32 + b)) := by
  have u := hb.1; have w := hb.2
  rw [t12] at w
  have e := bs N12 (s := 32) (Or.inr rfl) hb
  rw [t32] at e
  have z : (1 * 32 + b : Int32) = 32 + b := rfl
  unfold X_peek
  rw [vl_e ob (Or.inr rfl), Option.bind_some, if_neg (by decide), vb_e h0 hb, Option.bind_some, if_neg (by decide), z, chk_ok (by rw [t64, e]; omega)]
theorem rd_e {ob : Rec} {b : Int32} (h0 : gI ob 0 = 12) (h4 : gI ob 4 = 0) (hb : Kn 12 b) : X_read ob b = some (if gA ob 2 0 = 0 then gA ob 0 b else gA ob 0 (32 + b)) := by
  have u := hb.1; have w := hb.2
  rw [t12] at w
  have e := bs N12 (s := 32) (Or.inr rfl) hb
  rw [t32] at e
  have z : (0 * 32 + b : Int32) = b := by rw [Int32.zero_mul, Int32.zero_add]
  have z1 : (1 * 32 + b : Int32) = 32 + b := rfl
  unfold X_read
  rw [if_pos h4, vb_e h0 hb, Option.bind_some, if_neg (by decide), chk_ok (by decide), z, z1, chk_ok (by rw [t64]; omega), chk_ok (by rw [t64, e]; omega)]
  split <;> rfl
theorem ak_e {ob : Rec} {b : Int32} (h0 : gI ob 0 = 12) (hb : Kn 12 b) : X_ackedValue ob b = some (gA ob 1 b) := by
  have u := hb.1; have w := hb.2
  rw [t12] at w
  unfold X_ackedValue
  rw [vb_e h0 hb, Option.bind_some, if_neg (by decide), chk_ok (by rw [t32]; omega)]
theorem ls_e (ob : Rec) {i : Int32} (hi : L01 i) : X_legState ob i = some (gA ob 2 i) := by
  unfold X_legState; rw [vl_e ob hi, Option.bind_some, if_neg (by decide), chk2 hi]
theorem agl (NF : Nat) {rs : Int32} {ob : Rec} {l0 l1 ak : Int64} {s0 s1 pb pv pc pend down : Int32} (h : J rs ob l0 l1 ak s0 s1 pb pv pc pend down) : ∀ (m fuel : Nat) (i : Int32), m < fuel → 0 ≤ i.toInt → 12 - i.toInt ≤ m → L_agrees_l112 NF ob fuel l0 l1 ak s0 down i = some 1 := by
  obtain ⟨hm, ⟨a0, a1, a4, a5⟩, hd, hp, -, -, f0, f1, fk⟩ := h
  intro m
  induction m with
  | zero =>
    intro fuel i hf hi h2
    obtain ⟨u, rfl⟩ : ∃ n, fuel = n + 1 := ⟨fuel - 1, by omega⟩
    show L_agrees_w112 NF ob _ l0 l1 ak s0 down i = _
    unfold L_agrees_w112; rw [if_neg (by rw [lt_i, t12]; omega)]
  | succ m ih =>
    intro fuel i hf hi h2
    obtain ⟨u, rfl⟩ : ∃ n, fuel = n + 1 := ⟨fuel - 1, by omega⟩
    show L_agrees_w112 NF ob _ l0 l1 ak s0 down i = _
    unfold L_agrees_w112
    by_cases hc : i.toInt < 12
    · have ei := succ8 (i := i) (by omega)
      have k : Kn 12 i := ⟨hi, by rw [t12]; exact hc⟩
      have e := ih u (i + 1) (by omega) (by omega) (by omega)
      rw [if_pos (by rw [lt_i, t12]; omega), pk_0 hm.1.1 k, get_e f0 k, Option.bind_some, Option.bind_some, if_pos rfl, pk_1 hm.1.1 k, get_e f1 k, Option.bind_some, Option.bind_some, if_pos rfl, ak_e hm.1.1 k, get_e fk k, Option.bind_some, Option.bind_some, if_pos rfl, Option.bind_some, Option.bind_some]
      unfold L_agrees_b198
      rcases hd with rfl | rfl
      · rw [if_pos rfl, rd_e hm.1.1 a4 k, Option.bind_some, Option.bind_some, a0]
        by_cases s : s0 = 0
        · rw [if_pos s, if_pos s, if_pos rfl]; exact e
        · rw [if_neg s, if_neg s, if_pos rfl]; exact e
      · have rd : X_read ob i = some (-1) := by unfold X_read; rw [a4, if_neg (by decide)]
        rw [if_neg (by decide), rd, Option.bind_some, if_pos rfl]; exact e
    · rw [if_neg (by rw [lt_i, t12]; omega)]
theorem agr (NF : Nat) (hNF : 60 ≤ NF) {rs : Int32} {ob : Rec} {l0 l1 ak : Int64} {s0 s1 pb pv pc pend down : Int32} (h : J rs ob l0 l1 ak s0 s1 pb pv pc pend down) : L_agrees NF ob l0 l1 ak s0 s1 pend pb pc down = some 1 := by
  have l := agl NF h 12 NF 0 (by omega) (by decide) (by decide)
  obtain ⟨hm, ⟨a0, a1, a4, a5⟩, hd, hp, hb, -, f0, f1, fk⟩ := h
  have b73 : ∀ t0 t1 : Int32, t0 = t1 → L_agrees_b73 NF ob l0 l1 ak s0 down t0 t1 = some 1 := by
    intro u v e
    have r12 : X_read ob 12 = some (-1) := by
      unfold X_read
      by_cases c : gI ob 4 = 0
      · rw [if_pos c, vb_n hm.1.1 (fun k => absurd k.2 (by decide)), Option.bind_some, if_pos rfl]
      · rw [if_neg c]
    have p2 : X_peek ob 2 0 = some (-1) := by
      unfold X_peek; rw [vl_n ob (by decide), Option.bind_some, if_pos rfl]
    have am : X_ackedValue ob (-1) = some (-1) := by
      unfold X_ackedValue; rw [vb_n hm.1.1 (fun k => absurd k.1 (by decide)), Option.bind_some, if_pos rfl]
    unfold L_agrees_b73
    rw [if_pos e, r12, Option.bind_some, if_pos rfl, p2, Option.bind_some, if_pos rfl, am, Option.bind_some, if_pos rfl]; exact l
  have l2 : X_legState ob 2 = some (-1) := by
    unfold X_legState; rw [vl_n ob (by decide), Option.bind_some, if_pos rfl]
  have dn : (gI ob 4 &&& 1) = down := by
    rw [a4]; rcases hd with rfl | rfl <;> decide
  unfold L_agrees X_isDown
  rw [ls_e ob (Or.inl rfl), Option.bind_some, if_pos a0, ls_e ob (Or.inr rfl), Option.bind_some, if_pos a1, l2, Option.bind_some, if_pos rfl, Option.bind_some, if_pos dn]
  unfold X_pendingBlock L_agrees_b55 X_pendingCursor
  rw [a5]
  rcases hp with rfl | rfl
  · rw [if_pos rfl, Option.bind_some, if_pos rfl, if_pos rfl, if_pos rfl, Option.bind_some, if_pos rfl]; exact b73 _ _ rfl
  · obtain ⟨b6, b7, b8, -⟩ := hb rfl
    have n10 : ¬ (1 : Int32) = 0 := by decide
    rw [if_neg n10, Option.bind_some, if_neg n10, b6, if_pos rfl, if_neg n10, Option.bind_some, if_neg n10, b8]; exact b73 _ _ rfl
theorem VEr (ob : Rec) : VE ob ob := ⟨fun _ _ => rfl, fun _ _ _ => rfl⟩
theorem cr_mi {n rs : Int32} {ob : Rec} (hm : MI n rs ob) : MI n rs (sI (cl ob) 4 1) := by
  obtain ⟨g, -, i1, -⟩ := hm
  exact ⟨g, Or.inl rfl, i1, fun _ _ h4 => absurd h4 (by show ¬ (1 : Int32) = 0; decide)⟩
theorem rst_mi {n rs : Int32} {ob : Rec} (hm : MI n rs ob) (h4 : ¬ gI ob 4 = 0) : (¬ (gA ob 2 0 = 0 ∧ gA ob 2 1 = 0) → MI n rs (sI ob 4 0)) ∧ MI n rs (sA (sI ob 4 0) 2 1 1) := by
  obtain ⟨g, b, i1, -⟩ := hm
  refine ⟨fun hs => ⟨g, b.imp id (fun b => absurd b.2.1 h4), i1, fun a0 a1 _ => absurd ⟨a0, a1⟩ hs⟩, g, b.imp id (fun b => absurd b.2.1 h4), i1, fun a0 a1 _ => ?_⟩
  rw [gA_sA, if_pos ⟨rfl, rfl⟩] at a1; exact absurd a1 (by decide)
abbrev KT : Type := Rec → Int32 → Int64 → Int64 → Int64 → Int32 → Int32 → Int32 → Int32 → Int32 → Int32 → Int32 → Int32 → Option Int32
theorem law_b (NF : Nat) (hNF : 60 ≤ NF) (rs : Int32) (hrs : RS rs) (z : Int32) (f : Int32 → Int32) (k68 : KT) (ob : Rec) (i1 : Int32) (l0 l1 ak : Int64) (s0 s1 pb pv pc pend down i16 o blk val leg : Int32) (h : J rs ob l0 l1 ak s0 s1 pb pv pc pend down) (hblk : 0 ≤ blk.toInt) (hval : -1 ≤ val.toInt ∧ val.toInt ≤ 30) (hleg : leg = 0 ∨ leg = 1 ∨ leg = 2)
    (hk : ∀ q l0 l1 ak s0 s1 pb pv pc pend down, J rs q l0 l1 ak s0 s1 pb pv pc pend down → k68 q i1 l0 l1 ak s0 s1 pb pv pc pend down (i16 + 3) = some 1) : L_law_b136 NF z f k68 ob i1 l0 l1 ak s0 s1 pb pv pc pend down i16 o blk val leg = some 1 := by
  have b736 : ∀ (q : Rec) (l0 l1 ak : Int64) (s0 s1 pb pv pc pend down e g : Int32), g = e → J rs q l0 l1 ak s0 s1 pb pv pc pend down → L_law_b736 NF z f k68 q i1 l0 l1 ak s0 s1 pb pv pc pend down i16 e g = some 1 := by
    intro q l0 l1 ak s0 s1 pb pv pc pend down e g eg hJ
    unfold L_law_b736
    rw [if_pos eg, agr NF hNF hJ, Option.bind_some, if_neg (by decide)]
    exact hk _ _ _ _ _ _ _ _ _ _ _ hJ
  have hJ := h
  obtain ⟨hm, ⟨a0, a1, a4, a5⟩, hd, hp, hb, ⟨st0, st1, sact⟩, f0, f1, fk⟩ := h
  have g0 := hm.1.1
  have n10 : ¬ (1 : Int32) = 0 := by decide
  have dn : ∀ {q : Rec}, down = 1 → ¬ gI ob 4 = 0 := fun e => by rw [a4, e]; decide
  -- the law's mine and other
  have key : ∀ mine other : Int32, (leg = 0 → mine = s0 ∧ other = s1) → (leg = 1 → mine = s1 ∧ other = s0) → L_law_b162 NF z f k68 ob i1 l0 l1 ak s0 s1 pb pv pc pend down i16 o blk val leg mine other = some 1 := by
    intro mine other m0 m1
    have mA : L01 leg → gA ob 2 leg = mine ∧ gA ob 2 (1 - leg) = other := by
      intro hl
      rcases hl with e | e
      · rw [e, (m0 e).1, (m0 e).2]; exact ⟨a0, a1⟩
      · rw [e, (m1 e).1, (m1 e).2]; exact ⟨a1, a0⟩
    have l2 : ¬ L01 leg → 1 < leg := fun hl => by
      rcases hleg with e | e | e
      · exact absurd (Or.inl e) hl
      · exact absurd (Or.inr e) hl
      · rw [e]; decide
    have l2' : L01 leg → ¬ 1 < leg := fun hl => by rcases hl with e | e <;> rw [e] <;> decide
    unfold L_law_b162
    by_cases o0 : o = 0
    · rw [if_pos o0]
      unfold L_law_b216
      rcases hd with rfl | rfl
      · by_cases cb : Kn 12 blk
        · have cb' : blk < 12 := lt_i.mpr cb.2
          by_cases cv : val < 0
          · have e : X_write ob blk val = some (-2, ob) := by unfold X_write; rw [if_pos a4, vb_e g0 cb, Option.bind_some, if_neg (by decide), if_pos cv]
            rw [e, bind2_some, if_pos rfl, if_pos cb', if_pos cv, if_neg (by decide)]; exact b736 _ _ _ _ _ _ _ _ _ _ _ _ _ rfl hJ
          · have tv : (65535 : Int32).toInt = 65535 := rfl
            have cv2 : ¬ 65535 < val := by rw [lt_i, tv]; omega
            rcases hp with rfl | rfl
            · have T := tabM 12 N12 rs hrs blk (kM N12 cb)
              have c : ∀ A : Option Rec, chk 32 (blk / rs) A = A := fun A => chk_ok (by rw [t32]; omega)
              have e : X_write ob blk val = some (0, wr ob (blk / rs) blk val) := by
                unfold X_write X_markDirty dvz
                rw [if_pos a4, vb_e g0 cb, Option.bind_some, if_neg (by decide), if_neg cv, if_neg cv2, if_pos a5, hm.1.2.1, if_neg T.2.2.2.2.2.2.2.1, c, c, c, Option.bind_some]; rfl
              have bk : ∀ (k : Nat) (y : Int32), k < 3 → gA (wr ob (blk / rs) blk val) k y = gA ob k y := fun k y hk => (Bm.set ob (blk / rs) 1 0 0).2 k y hk
              rw [e, bind2_some, if_pos rfl, if_pos cb', if_neg cv, if_pos rfl, if_pos rfl]
              refine b736 _ _ _ _ _ _ _ _ _ _ _ _ _ rfl ⟨wr_mi hm a4 a5 cb, ⟨(bk 2 0 (by omega)).trans a0, (bk 2 1 (by omega)).trans a1, a4, rfl⟩, Or.inl rfl, Or.inr rfl, fun _ => ⟨rfl, rfl, rfl, ?_⟩, ⟨st0, st1, sact⟩, f0.c (fun x _ => bk 0 _ (by omega)), f1.c (fun x _ => bk 0 _ (by omega)), fk.c (fun x _ => bk 1 _ (by omega))⟩
              rw [lt_i, t0] at cv
              have : (2 : Int) ^ 5 = 32 := by decide
              constructor <;> omega
            · have e : X_write ob blk val = some (-3, ob) := by unfold X_write; rw [if_pos a4, vb_e g0 cb, Option.bind_some, if_neg (by decide), if_neg cv, if_neg cv2, a5, if_neg n10]
              rw [e, bind2_some, if_pos rfl, if_pos cb', if_neg cv, if_neg n10, if_neg (by decide)]; exact b736 _ _ _ _ _ _ _ _ _ _ _ _ _ rfl hJ
        · have cb' : ¬ blk < 12 := fun e => cb ⟨hblk, lt_i.mp e⟩
          have e : X_write ob blk val = some (-2, ob) := by unfold X_write; rw [if_pos a4, vb_n g0 cb, Option.bind_some, if_pos rfl]
          rw [e, bind2_some, if_pos rfl, if_neg cb', if_neg (by decide)]; exact b736 _ _ _ _ _ _ _ _ _ _ _ _ _ rfl hJ
      · have e : X_write ob blk val = some (-1, ob) := by unfold X_write; rw [a4, if_neg n10]
        rw [e, bind2_some, if_neg n10, if_neg (by decide)]; exact b736 _ _ _ _ _ _ _ _ _ _ _ _ _ rfl hJ
    · rw [if_neg o0]
      by_cases o1 : o = 1
      · rw [if_pos o1]
        unfold L_law_b262
        rcases hd with rfl | rfl
        · have e : X_crash ob = some (0, sI (cl ob) 4 1) := by unfold X_crash X_clearPending; rw [if_pos a4, Option.bind_some]; rfl
          rw [e, bind2_some, if_pos rfl, if_pos rfl]
          exact b736 _ _ _ _ _ _ _ _ _ _ _ _ _ rfl ⟨cr_mi hm, ⟨a0, a1, rfl, rfl⟩, Or.inr rfl, Or.inl rfl, fun e => absurd e (by decide), ⟨st0, st1, sact⟩, f0, f1, fk⟩
        · have e : X_crash ob = some (-1, ob) := by unfold X_crash; rw [a4, if_neg n10]
          rw [e, bind2_some, if_neg n10, if_neg n10]; exact b736 _ _ _ _ _ _ _ _ _ _ _ _ _ rfl hJ
      · rw [if_neg o1]
        by_cases o2 : o = 2
        · rw [if_pos o2]
          unfold L_law_b301
          rcases hd with rfl | rfl
          · have e : X_restart ob = some (-4, ob) := by unfold X_restart; rw [if_pos a4]
            rw [e, bind2_some, if_pos rfl, if_pos rfl]; exact b736 _ _ _ _ _ _ _ _ _ _ _ _ _ rfl hJ
          · have n4 : ¬ gI ob 4 = 0 := by rw [a4]; decide
            have p0 : pend = 0 := by
              rcases hm.2.1 with e | e
              · exact a5.symm.trans e
              · exact absurd e.2.1 n4
            have hb' : pend = 1 → gI ob 6 = pb ∧ gI ob 7 = pv ∧ gI ob 8 = pc ∧ V5 pv := hb
            by_cases c0 : s0 = 0
            · by_cases c1 : s1 = 0
              · have e : X_restart ob = some (0, sA (sI ob 4 0) 2 1 1) := by unfold X_restart; rw [if_neg n4, chk_ok (by decide), if_pos (a0.trans c0), chk_ok (by decide), if_pos (a1.trans c1), chk_ok (by decide)]
                rw [e, bind2_some, if_neg n10, if_neg n10, if_pos c0, if_pos c1]
                exact b736 _ _ _ _ _ _ _ _ _ _ _ _ _ rfl ⟨(rst_mi hm n4).2, ⟨a0, rfl, rfl, a5⟩, Or.inl rfl, hp, hb', ⟨st0, Or.inr (Or.inl rfl), Or.inl c0⟩, f0, f1, fk⟩
              · have e : X_restart ob = some (0, sI ob 4 0) := by unfold X_restart; rw [if_neg n4, chk_ok (by decide), if_pos (a0.trans c0), chk_ok (by decide), if_neg (fun x => c1 (a1.symm.trans x))]
                rw [e, bind2_some, if_neg n10, if_neg n10, if_pos c0, if_neg c1]
                exact b736 _ _ _ _ _ _ _ _ _ _ _ _ _ rfl ⟨(rst_mi hm n4).1 (fun x => c1 (a1.symm.trans x.2)), ⟨a0, a1, rfl, a5⟩, Or.inl rfl, hp, hb', ⟨st0, st1, sact⟩, f0, f1, fk⟩
            · have e : X_restart ob = some (0, sI ob 4 0) := by unfold X_restart; rw [if_neg n4, chk_ok (by decide), if_neg (fun x => c0 (a0.symm.trans x))]
              rw [e, bind2_some, if_neg n10, if_neg n10, if_neg c0]
              exact b736 _ _ _ _ _ _ _ _ _ _ _ _ _ rfl ⟨(rst_mi hm n4).1 (fun x => c0 (a0.symm.trans x.1)), ⟨a0, a1, rfl, a5⟩, Or.inl rfl, hp, hb', ⟨st0, st1, sact⟩, f0, f1, fk⟩
        · rw [if_neg o2]
          -- a leg's state is set
          have set : ∀ (q : Rec) (v : Int32), L01 leg → MI 12 rs q → (∀ x, gA q 2 x = if x = leg then v else gA ob 2 x) → gA q 2 0 = (if leg = 0 then v else s0) ∧ gA q 2 1 = (if leg = 0 then s1 else v) := by
            intro q v hl _ hq
            rcases hl with e | e
            · refine ⟨?_, ?_⟩
              · rw [hq, e, if_pos rfl, if_pos rfl]
              · rw [hq, e, if_neg n10, if_pos rfl]; exact a1
            · refine ⟨?_, ?_⟩
              · rw [hq, e, if_neg (by decide), if_neg n10]; exact a0
              · rw [hq, e, if_pos rfl, if_neg n10]
          by_cases o3 : o = 3
          · rw [if_pos o3]
            unfold L_law_b378
            rcases hd with rfl | rfl
            · by_cases hl : L01 leg
              · obtain ⟨x1, x2⟩ := mA hl
                by_cases c2 : mine = 2
                · have e : X_failLeg ob leg = some (-4, ob) := by unfold X_failLeg; rw [if_pos a4, vl_e ob hl, Option.bind_some, if_neg (by decide), chk2 hl, if_pos (x1.trans c2)]
                  rw [e, bind2_some, if_pos rfl, if_neg (l2' hl), if_pos c2, if_neg (by decide)]; exact b736 _ _ _ _ _ _ _ _ _ _ _ _ _ rfl hJ
                · have c2' : ¬ gA ob 2 leg = 2 := fun x => c2 (x1.symm.trans x)
                  by_cases c0 : other = 0
                  · have e : X_failLeg ob leg = some (0, sA ob 2 leg 2) := by unfold X_failLeg; rw [if_pos a4, vl_e ob hl, Option.bind_some, if_neg (by decide), chk2 hl, if_neg c2', chk2 (ot hl), if_pos (x2.trans c0), chk2 hl]
                    have mi := hm.st leg 2 hl (by decide)
                    obtain ⟨y0, y1⟩ := set (sA ob 2 leg 2) 2 hl mi (fun x => by rw [gA_sA]; simp)
                    rw [e, bind2_some, if_pos rfl, if_neg (l2' hl), if_neg c2, if_pos c0, if_pos rfl]
                    rcases hl with hl | hl
                    · rw [if_pos hl] at y0 y1 ⊢
                      exact b736 _ _ _ _ _ _ _ _ _ _ _ _ _ rfl ⟨mi, ⟨y0, y1, a4, a5⟩, Or.inl rfl, hp, hb, ⟨Or.inr (Or.inr rfl), st1, Or.inr ((m0 hl).2.symm.trans c0)⟩, f0, f1, fk⟩
                    · have n0 : ¬ leg = 0 := by rw [hl]; decide
                      rw [if_neg n0] at y0 y1 ⊢
                      exact b736 _ _ _ _ _ _ _ _ _ _ _ _ _ rfl ⟨mi, ⟨y0, y1, a4, a5⟩, Or.inl rfl, hp, hb, ⟨st0, Or.inr (Or.inr rfl), Or.inl ((m1 hl).2.symm.trans c0)⟩, f0, f1, fk⟩
                  · have e : X_failLeg ob leg = some (-4, ob) := by unfold X_failLeg; rw [if_pos a4, vl_e ob hl, Option.bind_some, if_neg (by decide), chk2 hl, if_neg c2', chk2 (ot hl), if_neg (fun x => c0 (x2.symm.trans x))]
                    rw [e, bind2_some, if_pos rfl, if_neg (l2' hl), if_neg c2, if_neg c0, if_neg (by decide)]; exact b736 _ _ _ _ _ _ _ _ _ _ _ _ _ rfl hJ
              · have e : X_failLeg ob leg = some (-2, ob) := by unfold X_failLeg; rw [if_pos a4, vl_n ob hl, Option.bind_some, if_pos rfl]
                rw [e, bind2_some, if_pos rfl, if_pos (l2 hl), if_neg (by decide)]; exact b736 _ _ _ _ _ _ _ _ _ _ _ _ _ rfl hJ
            · have e : X_failLeg ob leg = some (-1, ob) := by unfold X_failLeg; rw [a4, if_neg n10]
              rw [e, bind2_some, if_neg n10, if_neg (by decide)]; exact b736 _ _ _ _ _ _ _ _ _ _ _ _ _ rfl hJ
          · rw [if_neg o3]
            -- reattach and replace
            have b414 : (o = 4 ∨ o = 5) → L_law_b414 NF z f k68 ob i1 l0 l1 ak s0 s1 pb pv pc pend down i16 o leg mine = some 1 := by
              intro o45
              have bad : ∀ r : Int32, ¬ r = 0 → X_checkDetached ob leg = some r → (∀ E : Int32, L_law_b439 NF z f k68 ob i1 l0 l1 ak s0 s1 pb pv pc pend down i16 o leg mine r = L_law_b481 NF z f k68 ob i1 l0 l1 ak s0 s1 pb pv pc pend down i16 o leg r r) → L_law_b414 NF z f k68 ob i1 l0 l1 ak s0 s1 pb pv pc pend down i16 o leg mine = some 1 := by
                intro r hr ec e439
                have fin : L_law_b439 NF z f k68 ob i1 l0 l1 ak s0 s1 pb pv pc pend down i16 o leg mine r = some 1 := by
                  rw [e439 0]
                  unfold L_law_b481
                  rw [if_neg hr]; exact b736 _ _ _ _ _ _ _ _ _ _ _ _ _ rfl hJ
                unfold L_law_b414
                by_cases o4 : o = 4
                · have e : X_reattachLeg ob leg = some (r, ob) := by unfold X_reattachLeg; rw [ec, Option.bind_some, if_neg hr]
                  rw [if_pos o4, e, bind2_some]; exact fin
                · have e : X_replaceLeg NF ob leg = some (r, ob) := by unfold X_replaceLeg; rw [ec, Option.bind_some, if_neg hr]
                  rw [if_neg o4, e, bind2_some]; exact fin
              rcases hd with rfl | rfl
              · by_cases hl : L01 leg
                · obtain ⟨x1, x2⟩ := mA hl
                  rcases hp with rfl | rfl
                  · by_cases c2 : mine = 2
                    · have ec : X_checkDetached ob leg = some 0 := by unfold X_checkDetached; rw [if_pos a4, vl_e ob hl, Option.bind_some, if_neg (by decide), if_pos a5, chk2 hl, if_pos (x1.trans c2)]
                      have act : (if leg = 0 then s1 else s0) = 0 := by
                        rcases hl with hl | hl
                        · rw [if_pos hl]
                          rcases sact with s | s
                          · rw [(m0 hl).1, s] at c2; exact absurd c2 (by decide)
                          · exact s
                        · rw [if_neg (by rw [hl]; decide)]
                          rcases sact with s | s
                          · exact s
                          · rw [(m1 hl).1, s] at c2; exact absurd c2 (by decide)
                      unfold L_law_b414
                      by_cases o4 : o = 4
                      · have e : X_reattachLeg ob leg = some (0, sA ob 2 leg 1) := by unfold X_reattachLeg; rw [ec, Option.bind_some, if_pos rfl, chk2 hl]
                        have mi := hm.st leg 1 hl (by decide)
                        obtain ⟨y0, y1⟩ := set (sA ob 2 leg 1) 1 hl mi (fun x => by rw [gA_sA]; simp)
                        have o5 : ¬ o = 5 := by rw [o4]; decide
                        rw [if_pos o4, e, bind2_some]
                        unfold L_law_b439 L_law_b481
                        rw [if_pos rfl, if_neg (l2' hl), if_pos rfl, if_pos c2, if_pos rfl]
                        rcases hl with hl | hl
                        · rw [if_pos hl] at y0 y1 act ⊢
                          rw [if_neg o5]
                          exact b736 _ _ _ _ _ _ _ _ _ _ _ _ _ rfl ⟨mi, ⟨y0, y1, a4, a5⟩, Or.inl rfl, Or.inl rfl, hb, ⟨Or.inr (Or.inl rfl), st1, Or.inr act⟩, f0, f1, fk⟩
                        · have n0 : ¬ leg = 0 := by rw [hl]; decide
                          rw [if_neg n0] at y0 y1 act ⊢
                          rw [if_neg o5]
                          exact b736 _ _ _ _ _ _ _ _ _ _ _ _ _ rfl ⟨mi, ⟨y0, y1, a4, a5⟩, Or.inl rfl, Or.inl rfl, hb, ⟨st0, Or.inr (Or.inl rfl), Or.inl act⟩, f0, f1, fk⟩
                      · obtain ⟨q, e, mi, q1, q2, q3, q4, q5⟩ := rp1 NF hNF N12 hrs hm hl a5 ec
                        obtain ⟨y0, y1⟩ := set q 1 hl mi q3
                        have o5 : o = 5 := o45.resolve_left o4
                        rw [if_neg o4, e, bind2_some]
                        unfold L_law_b439 L_law_b481
                        rw [if_pos rfl, if_neg (l2' hl), if_pos rfl, if_pos c2, if_pos rfl]
                        rcases hl with hl | hl
                        · rw [if_pos hl] at y0 y1 act ⊢
                          rw [if_pos o5]
                          have z0 : (leg * 32 : Int32) = 0 := by rw [hl]; rfl
                          rw [z0] at q4 q5
                          refine b736 _ _ _ _ _ _ _ _ _ _ _ _ _ rfl ⟨mi, ⟨y0, y1, (q1 4).trans a4, (q1 5).trans a5⟩, Or.inl rfl, Or.inl rfl, fun e => absurd e (by decide), ⟨Or.inr (Or.inl rfl), st1, Or.inr act⟩, FB0 (fun x hx => ?_), f1.c (fun x hx => q4 _ (fun y hy e => ?_)), fk.c (fun x _ => q2 x)⟩
                          · have := q5 x hx
                            rw [Int32.zero_add] at this; exact this
                          · rw [Int32.zero_add] at e; exact ne32 N12 hy hx e.symm
                        · have n0 : ¬ leg = 0 := by rw [hl]; decide
                          rw [if_neg n0] at y0 y1 act ⊢
                          rw [if_pos o5]
                          have z0 : (leg * 32 : Int32) = 32 := by rw [hl]; rfl
                          rw [z0] at q4 q5
                          exact b736 _ _ _ _ _ _ _ _ _ _ _ _ _ rfl ⟨mi, ⟨y0, y1, (q1 4).trans a4, (q1 5).trans a5⟩, Or.inl rfl, Or.inl rfl, fun e => absurd e (by decide), ⟨st0, Or.inr (Or.inl rfl), Or.inl act⟩, f0.c (fun x hx => q4 _ (fun y hy e => ne32 N12 hx hy e)), FB0 (fun x hx => q5 x hx), fk.c (fun x _ => q2 x)⟩
                    · have c2' : ¬ gA ob 2 leg = 2 := fun x => c2 (x1.symm.trans x)
                      have ec : X_checkDetached ob leg = some (-4) := by unfold X_checkDetached; rw [if_pos a4, vl_e ob hl, Option.bind_some, if_neg (by decide), if_pos a5, chk2 hl, if_neg c2']
                      exact bad (-4) (by decide) ec (fun _ => by unfold L_law_b439; rw [if_pos rfl, if_neg (l2' hl), if_pos rfl, if_neg c2])
                  · have ec : X_checkDetached ob leg = some (-3) := by unfold X_checkDetached; rw [if_pos a4, vl_e ob hl, Option.bind_some, if_neg (by decide), a5, if_neg n10]
                    exact bad (-3) (by decide) ec (fun _ => by unfold L_law_b439; rw [if_pos rfl, if_neg (l2' hl), if_neg n10])
                · have ec : X_checkDetached ob leg = some (-2) := by unfold X_checkDetached; rw [if_pos a4, vl_n ob hl, Option.bind_some, if_pos rfl]
                  exact bad (-2) (by decide) ec (fun _ => by unfold L_law_b439; rw [if_pos rfl, if_pos (l2 hl)])
              · have ec : X_checkDetached ob leg = some (-1) := by unfold X_checkDetached; rw [a4, if_neg n10]
                exact bad (-1) (by decide) ec (fun _ => by unfold L_law_b439; rw [if_neg n10])
            by_cases o4 : o = 4
            · rw [if_pos o4]; exact b414 (Or.inl o4)
            · rw [if_neg o4]
              by_cases o5 : o = 5
              · rw [if_pos o5]; exact b414 (Or.inr o5)
              · rw [if_neg o5]
                by_cases o6 : o = 6
                · rw [if_pos o6]
                  unfold L_law_b572
                  rcases hd with rfl | rfl
                  · rcases hp with rfl | rfl
                    · by_cases c0 : s0 = 1
                      · have c1 : s1 = 0 := by
                          rcases sact with s | s
                          · rw [c0] at s; exact absurd s (by decide)
                          · exact s
                        have es : X_staleLeg ob = some 0 := by unfold X_staleLeg; rw [chk_ok (by decide), if_pos (a0.trans c0)]
                        obtain ⟨q, e, mi, q1, q2, q3, q4, q5⟩ := rsy1 NF hNF (i := 0) (s := 32) (d := 0) N12 hrs hm a4 a5 (Or.inl rfl) (Or.inr ⟨rfl, rfl⟩) rfl rfl (by decide) es
                        rw [e, bind2_some, if_pos rfl, if_pos rfl, if_pos c0, if_pos rfl, if_pos c0]
                        refine b736 _ _ _ _ _ _ _ _ _ _ _ _ _ rfl ⟨mi, ⟨by rw [q3, if_pos rfl], by rw [q3, if_neg (by decide)]; exact a1.trans c1, (q1 4).trans a4, (q1 5).trans a5⟩, Or.inl rfl, Or.inl rfl, fun e => absurd e (by decide), ⟨Or.inl rfl, Or.inl rfl, Or.inl rfl⟩, f1.c (fun x hx => ?_), f1.c (fun x hx => q4 _ (fun y hy e => ?_)), fk.c (fun x _ => q2 x)⟩
                        · have := q5 x hx
                          rw [Int32.zero_add] at this; exact this
                        · rw [Int32.zero_add] at e; exact ne32 N12 hy hx e.symm
                      · by_cases c1 : s1 = 1
                        · have c0' : s0 = 0 := by
                            rcases sact with s | s
                            · exact s
                            · rw [c1] at s; exact absurd s (by decide)
                          have es : X_staleLeg ob = some 1 := by unfold X_staleLeg; rw [chk_ok (by decide), if_neg (fun x => c0 (a0.symm.trans x)), chk_ok (by decide), if_pos (a1.trans c1)]
                          obtain ⟨q, e, mi, q1, q2, q3, q4, q5⟩ := rsy1 NF hNF (i := 1) (s := 0) (d := 32) N12 hrs hm a4 a5 (Or.inr rfl) (Or.inl ⟨rfl, rfl⟩) rfl rfl (by decide) es
                          rw [e, bind2_some, if_pos rfl, if_pos rfl, if_neg c0, if_pos c1, if_pos rfl, if_neg c0]
                          refine b736 _ _ _ _ _ _ _ _ _ _ _ _ _ rfl ⟨mi, ⟨by rw [q3, if_neg (by decide)]; exact a0.trans c0', by rw [q3, if_pos rfl], (q1 4).trans a4, (q1 5).trans a5⟩, Or.inl rfl, Or.inl rfl, fun e => absurd e (by decide), ⟨Or.inl rfl, Or.inl rfl, Or.inl rfl⟩, f0.c (fun x hx => q4 _ (fun y hy e => ne32 N12 hx hy e)), f0.c (fun x hx => ?_), fk.c (fun x _ => q2 x)⟩
                          have := q5 x hx
                          rw [Int32.zero_add] at this; exact this
                        · have e : X_resync NF ob = some (-4, ob) := by
                            unfold X_resync X_staleLeg
                            rw [if_pos a4, if_pos a5, chk_ok (by decide), if_neg (fun x => c0 (a0.symm.trans x)), chk_ok (by decide), if_neg (fun x => c1 (a1.symm.trans x)), Option.bind_some, if_pos rfl]
                          rw [e, bind2_some, if_pos rfl, if_pos rfl, if_neg c0, if_neg c1, if_neg (by decide)]; exact b736 _ _ _ _ _ _ _ _ _ _ _ _ _ rfl hJ
                    · have e : X_resync NF ob = some (-3, ob) := by unfold X_resync; rw [if_pos a4, a5, if_neg n10]
                      rw [e, bind2_some, if_pos rfl, if_neg n10, if_neg (by decide)]; exact b736 _ _ _ _ _ _ _ _ _ _ _ _ _ rfl hJ
                  · have e : X_resync NF ob = some (-1, ob) := by unfold X_resync; rw [a4, if_neg n10]
                    rw [e, bind2_some, if_neg n10, if_neg (by decide)]; exact b736 _ _ _ _ _ _ _ _ _ _ _ _ _ rfl hJ
                · rw [if_neg o6]
                  unfold L_law_b629
                  rcases hd with rfl | rfl
                  · rcases hp with rfl | rfl
                    · have e : X_step NF ob = some (-5, ob) := by unfold X_step; rw [if_pos a4, if_pos a5]
                      rw [e, bind2_some, if_pos rfl, if_pos rfl, if_pos rfl, if_pos rfl]; exact b736 _ _ _ _ _ _ _ _ _ _ _ _ _ rfl hJ
                    · obtain ⟨b6, b7, b8, vpv⟩ := hb rfl
                      obtain ⟨c, hc, es, ms, hcv, hc0⟩ := sk NF hNF hm a4 a5
                      have kb : Kn 12 pb := by rw [← b6]; exact hm.kb a5
                      rw [b8, a0, a1] at hcv
                      have pcr : pc = 0 ∨ pc = 1 ∨ pc = 2 := by
                        rcases hm.2.1 with e | e
                        · rw [a5] at e; exact absurd e (by decide)
                        · rw [← b8]; exact e.2.2.2.1
                      have cur : ∀ (q : Rec) (r : Int32), (if pc = (0 : Int32) then if s0 = (2 : Int32) then L_law_b655 NF z f k68 q i1 l0 l1 ak s0 s1 pb pv (1 : Int32) 1 0 i16 r else L_law_b655 NF z f k68 q i1 l0 l1 ak s0 s1 pb pv pc 1 0 i16 r else L_law_b655 NF z f k68 q i1 l0 l1 ak s0 s1 pb pv pc 1 0 i16 r) = L_law_b670 NF z f k68 q i1 l0 l1 ak s0 s1 pb pv c 1 0 i16 r := by
                        intro q r
                        unfold L_law_b655
                        rcases pcr with e | e | e
                        · rw [if_pos e] at hcv
                          by_cases x0 : s0 = 2
                          · rw [if_pos x0] at hcv
                            rw [if_pos e, if_pos x0, if_pos rfl]
                            by_cases x1 : s1 = 2
                            · rw [if_pos x1] at hcv; rw [if_pos x1, hcv]
                            · rw [if_neg x1] at hcv; rw [if_neg x1, hcv]
                          · rw [if_neg x0] at hcv
                            have e1 : ¬ pc = 1 := by rw [e]; decide
                            rw [if_pos e, if_neg x0, if_neg e1, hcv, e]
                        · have e0 : ¬ pc = 0 := by rw [e]; decide
                          rw [if_neg e0, if_pos e] at hcv
                          rw [if_neg e0, if_pos e]
                          by_cases x1 : s1 = 2
                          · rw [if_pos x1] at hcv; rw [if_pos x1, hcv]
                          · rw [if_neg x1] at hcv; rw [if_neg x1, hcv, e]
                        · have e0 : ¬ pc = 0 := by rw [e]; decide
                          have e1 : ¬ pc = 1 := by rw [e]; decide
                          rw [if_neg e0, if_neg e1] at hcv
                          rw [if_neg e0, if_neg e1, hcv, e]
                      have go : ∀ (q : Rec) (r : Int32), X_step NF ob = some (r, q) → L_law_b670 NF z f k68 q i1 l0 l1 ak s0 s1 pb pv c 1 0 i16 r = some 1 → (bind2 (X_step NF ob) fun r48 q49 => if (0 : Int32) = (0 : Int32) then if (1 : Int32) = (0 : Int32) then (if (0 : Int32) = (0 : Int32) then if (1 : Int32) = (0 : Int32) then L_law_b736 NF z f k68 q49 i1 l0 l1 ak s0 s1 pb pv pc 1 0 i16 (-5) r48 else if pc = (0 : Int32) then if s0 = (2 : Int32) then L_law_b655 NF z f k68 q49 i1 l0 l1 ak s0 s1 pb pv (1 : Int32) 1 0 i16 r48 else L_law_b655 NF z f k68 q49 i1 l0 l1 ak s0 s1 pb pv pc 1 0 i16 r48 else L_law_b655 NF z f k68 q49 i1 l0 l1 ak s0 s1 pb pv pc 1 0 i16 r48 else L_law_b736 NF z f k68 q49 i1 l0 l1 ak s0 s1 pb pv pc 1 0 i16 (-5) r48) else (if (0 : Int32) = (0 : Int32) then if (1 : Int32) = (0 : Int32) then L_law_b736 NF z f k68 q49 i1 l0 l1 ak s0 s1 pb pv pc 1 0 i16 0 r48 else if pc = (0 : Int32) then if s0 = (2 : Int32) then L_law_b655 NF z f k68 q49 i1 l0 l1 ak s0 s1 pb pv (1 : Int32) 1 0 i16 r48 else L_law_b655 NF z f k68 q49 i1 l0 l1 ak s0 s1 pb pv pc 1 0 i16 r48 else L_law_b655 NF z f k68 q49 i1 l0 l1 ak s0 s1 pb pv pc 1 0 i16 r48 else L_law_b736 NF z f k68 q49 i1 l0 l1 ak s0 s1 pb pv pc 1 0 i16 0 r48) else (if (0 : Int32) = (0 : Int32) then if (1 : Int32) = (0 : Int32) then L_law_b736 NF z f k68 q49 i1 l0 l1 ak s0 s1 pb pv pc 1 0 i16 (-1) r48 else if pc = (0 : Int32) then if s0 = (2 : Int32) then L_law_b655 NF z f k68 q49 i1 l0 l1 ak s0 s1 pb pv (1 : Int32) 1 0 i16 r48 else L_law_b655 NF z f k68 q49 i1 l0 l1 ak s0 s1 pb pv pc 1 0 i16 r48 else L_law_b655 NF z f k68 q49 i1 l0 l1 ak s0 s1 pb pv pc 1 0 i16 r48 else L_law_b736 NF z f k68 q49 i1 l0 l1 ak s0 s1 pb pv pc 1 0 i16 (-1) r48)) = some 1 := by
                        intro q r e g
                        rw [e, bind2_some, if_pos rfl, if_neg n10, if_pos rfl, if_neg n10, cur]; exact g
                      rcases hc with rfl | rfl | rfl
                      · obtain ⟨x8, x0⟩ := hc0 rfl
                        have e := sp_0 NF hNF N12 a4 a5 (hm.kb a5) x8 x0
                        have mi := lw0_mi N12 hm a5 x8
                        rw [b6, b7] at e mi
                        refine go _ _ e ?_
                        unfold L_law_b670
                        obtain ⟨r, er, fr⟩ := put_e f0 kb vpv
                        rw [if_pos rfl, er, Option.bind_some]
                        refine b736 _ _ _ _ _ _ _ _ _ _ _ _ _ rfl ⟨mi, ⟨a0, a1, a4, a5⟩, Or.inl rfl, Or.inr rfl, fun _ => ⟨b6, b7, rfl, vpv⟩, ⟨st0, st1, sact⟩, fr.c (fun x hx => ?_), f1.c (fun x hx => ?_), fk⟩
                        · show gA (sI (sA ob 0 pb pv) 8 1) 0 x = if x = pb then pv else gA ob 0 x
                          rw [gA_sI, gA_sA]; simp
                        · show gA (sI (sA ob 0 pb pv) 8 1) 0 (32 + x) = _
                          rw [gA_sI, gA_sA, if_neg (fun e => ne32 N12 kb hx e.2.symm)]
                      · have e := es.trans (b53_1 NF N12 (ob := sI ob 8 1) (hm.kb a5) rfl)
                        have mi := lw1_mi N12 ms a5 rfl
                        have c6 : gI (sI ob 8 1) 6 = pb := b6
                        have c7 : gI (sI ob 8 1) 7 = pv := b7
                        rw [c6, c7] at e mi
                        refine go _ _ e ?_
                        unfold L_law_b670
                        obtain ⟨r, er, fr⟩ := put_e f1 kb vpv
                        rw [if_neg n10, if_pos rfl, er, Option.bind_some]
                        refine b736 _ _ _ _ _ _ _ _ _ _ _ _ _ rfl ⟨mi, ⟨a0, a1, a4, a5⟩, Or.inl rfl, Or.inr rfl, fun _ => ⟨b6, b7, rfl, vpv⟩, ⟨st0, st1, sact⟩, f0.c (fun x hx => ?_), fr.c (fun x hx => ?_), fk⟩
                        · show gA (sI (sA (sI ob 8 1) 0 (32 + pb) pv) 8 2) 0 x = _
                          rw [gA_sI, gA_sA, if_neg (fun e => ne32 N12 hx kb e.2)]; rfl
                        · show gA (sI (sA (sI ob 8 1) 0 (32 + pb) pv) 8 2) 0 (32 + x) = if x = pb then pv else gA ob 0 (32 + x)
                          rw [gA_sI, gA_sA]
                          by_cases cx : x = pb
                          · rw [if_pos ⟨rfl, by rw [cx]⟩, if_pos cx]
                          · rw [if_neg (fun e => cx (bs_inj N12 (Or.inr rfl) hx kb e.2)), if_neg cx]; rfl
                      · obtain ⟨q, eq, mi, ve⟩ := ack_e NF hNF N12 hrs ms a5 rfl
                        have e : X_step NF ob = some (3, q) := by rw [es, b53_2 NF rfl, eq, Option.bind_some]
                        have c6 : gI (sI ob 8 2) 6 = pb := b6
                        have c7 : gI (sI ob 8 2) 7 = pv := b7
                        rw [c6, c7] at ve
                        refine go _ _ e ?_
                        unfold L_law_b670
                        obtain ⟨r, er, fr⟩ := put_e fk kb vpv
                        rw [if_neg (by decide), if_neg (by decide), er, Option.bind_some]
                        refine b736 _ _ _ _ _ _ _ _ _ _ _ _ _ rfl ⟨mi, ⟨(ve.2 2 0 (by omega)).trans a0, (ve.2 2 1 (by omega)).trans a1, (ve.1 4 (by omega)).trans a4, (ve.1 5 (by omega)).trans rfl⟩, Or.inl rfl, Or.inl rfl, fun e => absurd e (by decide), ⟨st0, st1, sact⟩, f0.c (fun x hx => ve.2 0 x (by omega)), f1.c (fun x hx => ve.2 0 _ (by omega)), fr.c (fun x hx => ?_)⟩
                        have := ve.2 1 x (by omega)
                        rw [this]
                        show gA (sA (sI ob 8 2) 1 pb pv) 1 x = if x = pb then pv else gA ob 1 x
                        rw [gA_sA]; simp [gA_sI]
                  · have e : X_step NF ob = some (-1, ob) := by unfold X_step; rw [a4, if_neg n10]
                    rw [e, bind2_some, if_neg n10, if_neg n10]; exact b736 _ _ _ _ _ _ _ _ _ _ _ _ _ rfl hJ
  unfold L_law_b136 L_law_b148
  by_cases c : leg = 0
  · rw [if_pos c, if_pos c]; exact key s0 s1 (fun _ => ⟨rfl, rfl⟩) (fun e => by rw [c] at e; exact absurd e (by decide))
  · rw [if_neg c, if_neg c]; exact key s1 s0 (fun e => absurd e c) (fun _ => ⟨rfl, rfl⟩)
theorem and_r (x m : Int32) (k : Nat) (hm : m.toBitVec.toNat = k) (hk : k < 2147483648) : 0 ≤ (x &&& m).toInt ∧ (x &&& m).toInt ≤ (k : Int) := by
  have h1 : (x &&& m).toBitVec.toNat = x.toBitVec.toNat &&& m.toBitVec.toNat := by rw [Int32.toBitVec_and, BitVec.toNat_and]
  have h2 : (x &&& m).toBitVec.toNat ≤ k := by rw [h1, hm]; exact Nat.and_le_right
  have h3 : (x &&& m).toInt = ((x &&& m).toBitVec.toNat : Int) := by
    show (x &&& m).toBitVec.toInt = _
    exact BitVec.toInt_eq_toNat_of_lt (by omega)
  rw [h3]; omega
theorem law_l (NF : Nat) (hNF : 60 ≤ NF) (rs : Int32) (hrs : RS rs) (z : Int32) (f : Int32 → Int32) (hz : ¬ z < 0 ∧ z ≤ 260) : ∀ (m fuel : Nat) (ob : Rec) (l0 l1 ak : Int64) (s0 s1 pb pv pc pend down i : Int32), m < fuel → J rs ob l0 l1 ak s0 s1 pb pv pc pend down → 0 ≤ i.toInt → i.toInt ≤ 300 → 300 - i.toInt ≤ m → L_law_l68 NF z f fuel ob z l0 l1 ak s0 s1 pb pv pc pend down i = some 1 := by
  have hz' : z.toInt ≤ 260 := le_i.mp hz.2
  intro m
  induction m with
  | zero =>
    intro fuel ob l0 l1 ak s0 s1 pb pv pc pend down i hf h h0 h1 h2
    obtain ⟨u, rfl⟩ : ∃ n, fuel = n + 1 := ⟨fuel - 1, by omega⟩
    show L_law_w68 NF z f _ ob z l0 l1 ak s0 s1 pb pv pc pend down i = _
    have e2 : (i + 2).toInt = i.toInt + 2 := by rw [ad (by rw [t2]; omega), t2]
    unfold L_law_w68
    rw [if_neg (by rw [lt_i]; omega)]
  | succ m ih =>
    intro fuel ob l0 l1 ak s0 s1 pb pv pc pend down i hf h h0 h1 h2
    obtain ⟨u, rfl⟩ : ∃ n, fuel = n + 1 := ⟨fuel - 1, by omega⟩
    show L_law_w68 NF z f (L_law_l68 NF z f u) ob z l0 l1 ak s0 s1 pb pv pc pend down i = _
    have e1 : (i + 1).toInt = i.toInt + 1 := by rw [ad (by rw [t1]; omega), t1]
    have e2 : (i + 2).toInt = i.toInt + 2 := by rw [ad (by rw [t2]; omega), t2]
    have e3 : (i + 3).toInt = i.toInt + 3 := by rw [ad (by rw [t3]; omega), t3]
    unfold L_law_w68
    by_cases c : i + 2 < z
    · have c' := lt_i.mp c
      rw [e2] at c'
      have b15 := and_r (f (i + 1)) 15 15 rfl (by omega)
      have b31 := and_r (f (i + 2)) 31 31 rfl (by omega)
      have b7 := and_r (f (i + 1)) 7 7 rfl (by omega)
      have bv : ((f (i + 2) &&& 31) - 1).toInt = (f (i + 2) &&& 31).toInt - 1 := by rw [sb (by rw [t1]; omega), t1]
      have go := fun leg hleg => law_b NF hNF rs hrs z f (L_law_l68 NF z f u) ob z l0 l1 ak s0 s1 pb pv pc pend down i (f i &&& 15) (f (i + 1) &&& 15) ((f (i + 2) &&& 31) - 1) leg h b15.1 (by omega) hleg (fun q l0 l1 ak s0 s1 pb pv pc pend down hq => ih u q l0 l1 ak s0 s1 pb pv pc pend down (i + 3) (by omega) hq (by omega) (by omega) (by omega))
      rw [if_pos c, chk_ok (by omega), chk_ok (by omega), chk_ok (by omega)]
      by_cases d : f (i + 1) &&& 7 < 3
      · rw [if_pos d]
        refine go _ ?_
        rw [lt_i, t3] at d
        simp only [eq_i32, Int32.reduceToInt]
        omega
      · rw [if_neg d]
        refine go _ ?_
        have b1 := and_r (f (i + 1) &&& 7) 1 1 rfl (by omega)
        simp only [eq_i32, Int32.reduceToInt]
        omega
    · rw [if_neg c]
theorem cl14 (a : Int32) : ∃ v, X_clamp a 1 4 = some v ∧ RS v := by
  unfold X_clamp
  by_cases h1 : a < 1
  · exact ⟨1, by rw [if_pos h1], by decide⟩
  · by_cases h2 : 4 < a
    · exact ⟨4, by rw [if_neg h1, if_pos h2], by decide⟩
    · refine ⟨a, by rw [if_neg h1, if_neg h2], ?_⟩
      simp only [lt_i, Int32.reduceToInt] at h1 h2
      simp only [List.mem_cons, eq_i32, Int32.reduceToInt, List.not_mem_nil, or_false]
      omega
theorem clx (a b c : Int32) : ∃ v, X_clamp a b c = some v := by
  unfold X_clamp
  split
  · exact ⟨_, rfl⟩
  · split <;> exact ⟨_, rfl⟩
theorem ini (a b : Int32) : ∃ rs q, RS rs ∧ X_init 12 a b = some q ∧ J rs q 0 0 0 0 0 0 0 0 0 0 := by
  obtain ⟨rs, e1, hrs⟩ := cl14 a
  obtain ⟨cd, e2⟩ := clx b 0 4
  have T := tabM 12 N12 rs hrs 0 (by decide)
  have h12 : X_clamp 12 8 32 = some 12 := by unfold X_clamp; rw [if_neg (by decide), if_neg (by decide)]
  have z : ∀ k i, gA (sI (sI (sI (sI (sI (sA (sA (sI (sI (sI (sI zrec 0 12) 1 rs) 2 cd) 3 (((12 + rs) - 1) / rs)) 2 0 0) 2 1 0) 4 0) 5 0) 6 (-1)) 7 0) 8 (-1)) k i = 0 := fun k i => by simp [gA_sI, gA_sA, gA_z]
  refine ⟨rs, sI (sI (sI (sI (sI (sA (sA (sI (sI (sI (sI zrec 0 12) 1 rs) 2 cd) 3 (((12 + rs) - 1) / rs)) 2 0 0) 2 1 0) 4 0) 5 0) 6 (-1)) 7 0) 8 (-1), hrs, ?_, ⟨⟨rfl, rfl, rfl⟩, Or.inl rfl, fun x _ e => absurd ((z 0 x).trans (z 0 (32 + x)).symm) e, fun _ _ _ => ⟨fun x _ e => absurd ((z 0 x).trans (z 0 (32 + x)).symm) e, fun e => absurd e (by show ¬ (0 : Int32) = 1; decide)⟩⟩, ⟨z 2 0, z 2 1, rfl, rfl⟩, Or.inl rfl, Or.inl rfl, fun e => absurd e (by decide), ⟨Or.inl rfl, Or.inl rfl, Or.inl rfl⟩, FB0 (fun x _ => z 0 x), FB0 (fun x _ => z 0 _), FB0 (fun x _ => z 1 x)⟩
  unfold X_init dvz
  rw [h12, Option.bind_some, e1, Option.bind_some, e2, Option.bind_some, if_neg T.2.2.2.2.2.2.2.1, chk_ok (by decide), chk_ok (by decide)]
theorem owed : ∀ (z : Int32) (f : Int32 → Int32), ¬ z < 0 → z ≤ 260 → ∃ NF, L_law NF z f = some 1 := by
  intro z f h0 h1
  refine ⟨500, ?_⟩
  have b32 : ∀ a b : Int32, L_law_b32 500 z f z 12 a b = some 1 := by
    intro a b
    obtain ⟨rs, q, hrs, e, hJ⟩ := ini a b
    unfold L_law_b32
    rw [e, Option.bind_some]
    exact law_l 500 (by omega) rs hrs z f ⟨h0, h1⟩ 300 500 q 0 0 0 0 0 0 0 0 0 0 2 (by omega) hJ (by decide) (by decide) (by decide)
  have b20 : ∀ a : Int32, L_law_b20 500 z f z 12 a = some 1 := by
    intro a
    unfold L_law_b20
    by_cases c : 1 < z
    · rw [if_pos c, chk_ok ⟨by decide, lt_i.mp c⟩]; exact b32 _ _
    · rw [if_neg c]; exact b32 _ _
  unfold L_law
  by_cases c : 0 < z
  · rw [if_pos c, chk_ok ⟨by decide, lt_i.mp c⟩]; exact b20 _
  · rw [if_neg c]; exact b20 _
-- owed : ∀ (z : Int32) (f : Int32 → Int32), ¬ z < 0 → z ≤ 260 → ∃ NF, L_law NF z f = some 1
--COMES--
set_option maxRecDepth 65536 in
set_option maxHeartbeats 4000000 in
theorem comes_1 {Post : Tables → Env → Array Value → State → Outcome → State → Prop} (hpost : ∀ tb e args s v u, (limb_1_1.after args s (.returned v) u = true ∧ limb_1_2.after args s (.returned v) u = true ∧ True) → FrameEnd s (.returned v) u (Jvm.fieldLocs frame_1_writes args s ++ Jvm.arrayLocs frame_1_arrays args s ++ Jvm.staticLocs frame_1_statics s) 24 512 → Post tb e args s (.returned v) u) :
    ArmFor flags0 classFile x code maxLocals ret World_1 tables_1 room_1 Calls_1 rest_1 Pre_1 Post := by
  intro l hfl _ _ p e ha hc hk s m args below hf hA hF happ hP
  obtain ⟨hcalls, hrest, hpre⟩ := hP
  obtain ⟨-, -, -, hnamed, -, -, -, hat⟩ := (Spec.applies_iff hf).mp happ
  obtain ⟨hg, hn⟩ := and_e (Cond.before_iff.mp (show (Jvm.Cond.and given_1 narrow_1).before args s = true from hpre))
  obtain ⟨hcnt, hg⟩ := and_e hg
  obtain ⟨w0, rfl⟩ : ∃ w0 : Value, args = #[w0] := by
    have hs : args.size = 1 := by simpa [Cond.value, given_1] using hcnt
    obtain ⟨L⟩ := args
    match L, hs with
    | [w0], _ => exact ⟨w0, rfl⟩
  have hw := fun d (hd : d ∈ tables_1) => atoms_spec (ws := Jvm.Cond.code x code maxLocals ret :: tables_1) hat d (List.mem_cons_of_mem _ hd)
  have hfit : Fit s := fun {y c} hc i hi => by
    obtain ⟨ha, rfl⟩ := Array.getElem?_eq_some_iff.mp hc
    have q := List.all_eq_true.mp ((Array.all_eq_true_iff_forall_mem.mp hF) _ (Array.getElem_mem ha)) i (List.mem_range.mpr hi)
    simpa [Array.getElem?_eq_getElem hi] using q
  obtain ⟨n1, n2⟩ := and_e hn
  obtain ⟨sa, ev⟩ := arr_v n1
  obtain rfl : w0 = .ref sa := Option.some.inj ev
  obtain ⟨cl, A⟩ := Arr.start ev n1
  have hsz : cl.slots.size < 2 ^ 31 := by
    rcases Nat.lt_or_ge cl.slots.size (2 ^ 31) with q | q
    · exact q
    · have u : (Term.length (.arg 0)).eval #[.ref sa] s none [] s = none := by
        have v : s.arrayAt? sa = some cl := A.fin (Vm.Alike.refl _)
        have e' : ¬ cl.slots.size < 2 ^ 31 := by omega
        simp only [Term.eval] at ev ⊢
        simp [v, e']
      simp [Cond.value, u] at n2
  obtain ⟨z, hz, F⟩ := Scr.start hfit A hsz
  have hle : z ≤ 260 := by
    have u := len_f (t := .arg 0) (args := #[.ref sa]) (first := s) (o := none) (idx := []) ev (A.fin (Vm.Alike.refl _)) hsz
    rw [hz]; first | (simp only [Cond.value, u] at n2; simpa [Term.eval] using n2) | (simp [Cond.value, u, Term.int_eval] at n2; exact n2) | (simp [Cond.value, u, Term.int_eval] at n2; simpa using n2)
  obtain ⟨NF, hlaw⟩ := owed z (atv cl) F.2.2.1 hle
  have hp := L_law_pay (C := (l, s, s.heap.size, #[.ref sa])) (⟨cl, F, rfl⟩ : ScrF (l, s, s.heap.size, #[.ref sa]) sa z (atv cl)) hlaw hw s.heap (Rep.start s) tables_1
  obtain ⟨n, o, h1, h2, h3, v, L, rfl, ⟨N, G', -, rfl⟩, hq⟩ := hp p e ha hc hk s m _ below hf ((Spec.applies_iff_loose hf).mp happ).1 ⟨rfl, State.Warmed39.refl s, rfl⟩ trivial
  refine ⟨n, _, h1, h2, h3, hpost _ _ _ _ _ _ ⟨Cond.after_iff.mpr rfl, Cond.after_iff.mpr (eq_i res_at (Term.int_eval (1)) rfl), trivial⟩ ⟨hq.1, hq.2.1, (hq.2.2.sift fun y hy => Or.inr (N y hy)).mono (by decide) (by decide)⟩⟩
theorem main_1_1 : Claimed_1_1 := comes_1 fun _ _ _ _ _ _ h hF => ⟨h.1, hF⟩
theorem main_1_2 : Claimed_1_2 := comes_1 fun _ _ _ _ _ _ h hF => ⟨h.2.1, hF⟩
end Jvm.Pilot.@@N@@
namespace Jvm.Pilot.@@N@@
open Jvm Jvm.ClassFile Sem Op Lib Jvm.Free Jvm.Stand Jvm.Pilot.@@N@@.Jvm.D
/-! MADE BY PROGRAM (witnessworld.py) out of the Statement's table words and the real class files: 11 classes; the members and pool entries that the words name. The judged class is class 1, her method 4. -/
namespace start1
open Jvm.ClassFile
def u (s : String) : CpInfo := .utf8 (stringToUtf16 s)
/-- a pool by its gaps: so many unusable entries, then the entry; so many at the end -/
def gap : Nat → List CpInfo → List CpInfo
  | 0, r => r
  | n + 1, r => .unusable :: gap n r
def poolList (es : List (Nat × CpInfo)) (last : Nat) : List CpInfo := es.foldr (fun e r => gap e.1 (e.2 :: r)) (gap last [])
def pool (es : List (Nat × CpInfo)) (last : Nat) : Array CpInfo := ⟨poolList es last⟩
def fileOf (pool : Array CpInfo) (this : Nat) (attrs : Array Attribute := #[]) (ms : Array MethodInfo := #[]) (fl : Nat := 33) (sup : Nat := 0) (ifs : Array Nat := #[]) (fds : Array FieldInfo := #[]) : ClassFile where
  minorVersion := 0
  majorVersion := 65
  constantPool := pool
  accessFlags := fl
  thisClass := this
  superClass := sup
  interfaces := ifs
  fields := fds
  methods := ms
  attributes := attrs
def plain (name : String) (sup : Option ClassId) : Class where
  name := name
  kind := .ordinary
  loader := none
  accessFlags := 33
  super := sup
  interfaces := #[]
  cf := none
  fields := #[]
  methods := #[]
  instanceTypes := #[]
  staticTypes := #[]
  resolved := #[]
  callSites := []
  init := .initialized
  statics := none
  mirror := none

def pool0 : Array CpInfo := pool [(5, u "<init>"), (0, u "()V"), (1, .class_ 10), (1, u "java/lang/Object")] 113

def k0c0 : Code := { maxStack := 0, maxLocals := 1, code := object_method_1_code, exceptionTable := #[], attributes := #[] }
def k0m0 : Method := { name := "<init>", desc := "()V", sig := { parameters := [], returnType := none }, accessFlags := 1, code := some k0c0 }
/-- java/lang/Object -/
def k0 : Class := { plain "java/lang/Object" none with
  accessFlags := 33
  interfaces := #[]
  cf := some (fileOf pool0 8 #[] #[{ accessFlags := 1, nameIndex := 5, descriptorIndex := 6, attributes := #[] }] 33 0 #[] #[])
  fields := #[]
  methods := #[k0m0]
  instanceTypes := #[]
  staticTypes := #[]
  resolved := Array.replicate 124 none
  statics := none }

def pool1 : Array CpInfo := pool [(2, .class_ 4), (1, u "java/lang/Object"), (0, u "<init>"), (0, u "()V"), (0, .long 31), (1, .long 18446744073709551615), (1, .methodref 12 13), (0, .class_ 14), (0, .nameAndType 15 16), (0, u "MirrorResync"), (0, u "legState"), (0, u "(I)I"), (0, .methodref 12 18), (0, .nameAndType 19 20), (0, u "isDown"), (0, u "()Z"), (0, .methodref 12 22), (0, .nameAndType 23 24), (0, u "pendingBlock"), (0, u "()I"), (0, .methodref 12 26), (0, .nameAndType 27 24), (0, u "pendingCursor"), (0, .methodref 12 29), (0, .nameAndType 30 16), (0, u "read"), (0, .methodref 12 32), (0, .nameAndType 33 34), (0, u "peek"), (0, u "(II)I"), (0, .methodref 12 36), (0, .nameAndType 37 16), (0, u "ackedValue"), (0, .methodref 39 40), (0, .class_ 41), (0, .nameAndType 42 43), (0, u "MirrorResyncL6"), (0, u "get"), (0, u "(JI)I"), (0, .methodref 12 45), (0, .nameAndType 5 46), (0, u "(III)V"), (0, .methodref 12 48), (0, .nameAndType 49 34), (0, u "write"), (0, .methodref 12 51), (0, .nameAndType 52 24), (0, u "crash"), (0, .methodref 12 54), (0, .nameAndType 55 24), (0, u "restart"), (0, .methodref 12 57), (0, .nameAndType 58 16), (0, u "failLeg"), (0, .methodref 12 60), (0, .nameAndType 61 16), (0, u "reattachLeg"), (0, .methodref 12 63), (0, .nameAndType 64 16), (0, u "replaceLeg"), (0, .methodref 12 66), (0, .nameAndType 67 24), (0, u "resync"), (0, .methodref 12 69), (0, .nameAndType 70 24), (0, u "step"), (0, .methodref 39 72), (0, .nameAndType 73 74), (0, u "put"), (0, u "(JII)J"), (0, .methodref 39 76), (0, .nameAndType 77 78), (0, u "agrees"), (0, u "(LMirrorResync;JJJIIZIIZ)Z"), (3, u "law"), (0, u "([I)Z")] 4

def k1m0 : Method := { name := "<init>", desc := "()V", sig := { parameters := [], returnType := none }, accessFlags := 1, code := none }
def k1c1 : Code := { maxStack := 4, maxLocals := 3, code := method_2_code, exceptionTable := #[], attributes := #[] }
def k1m1 : Method := { name := "get", desc := "(JI)I", sig := { parameters := [.long, .int], returnType := some .int }, accessFlags := 8, code := some k1c1 }
def k1c2 : Code := { maxStack := 6, maxLocals := 4, code := method_3_code, exceptionTable := #[], attributes := #[] }
def k1m2 : Method := { name := "put", desc := "(JII)J", sig := { parameters := [.long, .int, .int], returnType := some .long }, accessFlags := 8, code := some k1c2 }
def k1c3 : Code := { maxStack := 4, maxLocals := 15, code := method_4_code, exceptionTable := #[], attributes := #[] }
def k1m3 : Method := { name := "agrees", desc := "(LMirrorResync;JJJIIZIIZ)Z", sig := { parameters := [(.object "MirrorResync"), .long, .long, .long, .int, .int, .boolean, .int, .int, .boolean], returnType := some .boolean }, accessFlags := 8, code := some k1c3 }
def k1c4 : Code := { maxStack := 13, maxLocals := 27, code := code, exceptionTable := #[], attributes := #[] }
def k1m4 : Method := { name := "law", desc := "([I)Z", sig := { parameters := [(.array .int)], returnType := some .boolean }, accessFlags := 9, code := some k1c4 }
/-- MirrorResyncL6 -/
def k1 : Class := { plain "MirrorResyncL6" (some 0) with
  accessFlags := 33
  interfaces := #[]
  cf := some (fileOf pool1 39 #[] #[{ accessFlags := 1, nameIndex := 5, descriptorIndex := 6, attributes := #[] }, { accessFlags := 8, nameIndex := 42, descriptorIndex := 43, attributes := #[] }, { accessFlags := 8, nameIndex := 73, descriptorIndex := 74, attributes := #[] }, { accessFlags := 8, nameIndex := 77, descriptorIndex := 78, attributes := #[] }, { accessFlags := 9, nameIndex := 82, descriptorIndex := 83, attributes := #[] }] 33 2 #[] #[])
  fields := #[]
  methods := #[k1m0, k1m1, k1m2, k1m3, k1m4]
  instanceTypes := #[]
  staticTypes := #[]
  resolved := Array.replicate 88 none
  statics := none }

def pool2 : Array CpInfo := pool [(1, .methodref 2 3), (0, .class_ 4), (0, .nameAndType 5 6), (0, u "java/lang/Object"), (0, u "<init>"), (0, u "()V"), (0, .fieldref 8 9), (0, .class_ 10), (0, .nameAndType 11 12), (0, u "MirrorResync"), (0, u "data"), (0, u "[I"), (0, .fieldref 8 14), (0, .nameAndType 15 12), (0, u "acked"), (0, .fieldref 8 17), (0, .nameAndType 18 12), (0, u "state"), (0, .fieldref 8 20), (0, .nameAndType 21 22), (0, u "dirty"), (0, u "[Z"), (0, .fieldref 8 24), (0, .nameAndType 25 22), (0, u "pending"), (0, .fieldref 8 27), (0, .nameAndType 28 12), (0, u "age"), (0, .methodref 8 30), (0, .nameAndType 31 32), (0, u "clamp"), (0, u "(III)I"), (0, .fieldref 8 34), (0, .nameAndType 35 36), (0, u "n"), (0, u "I"), (0, .fieldref 8 38), (0, .nameAndType 39 36), (0, u "regionSize"), (0, .fieldref 8 41), (0, .nameAndType 42 36), (0, u "clearDelay"), (0, .fieldref 8 44), (0, .nameAndType 45 36), (0, u "regions"), (0, .fieldref 8 47), (0, .nameAndType 48 49), (0, u "down"), (0, u "Z"), (0, .fieldref 8 51), (0, .nameAndType 52 49), (0, u "busy"), (0, .fieldref 8 54), (0, .nameAndType 55 36), (0, u "pBlock"), (0, .fieldref 8 57), (0, .nameAndType 58 36), (0, u "pValue"), (0, .fieldref 8 60), (0, .nameAndType 61 36), (0, u "pCursor"), (0, .methodref 8 63), (0, .nameAndType 64 65), (0, u "validBlock"), (0, u "(I)Z"), (0, .integer 65535), (0, .methodref 8 68), (0, .nameAndType 69 70), (0, u "markDirty"), (0, u "(I)V"), (0, .methodref 8 72), (0, .nameAndType 73 6), (0, u "acknowledge"), (0, .methodref 8 75), (0, .nameAndType 76 6), (0, u "clearPending"), (0, .methodref 8 78), (0, .nameAndType 79 65), (0, u "validLeg"), (0, .methodref 8 81), (0, .nameAndType 82 83), (0, u "checkDetached"), (0, u "(I)I"), (0, .methodref 8 85), (0, .nameAndType 86 70), (0, u "zeroLeg"), (0, .methodref 8 88), (0, .nameAndType 89 6), (0, u "markAllDirty"), (0, .methodref 8 91), (0, .nameAndType 92 93), (0, u "staleLeg"), (0, u "()I"), (0, .methodref 8 95), (0, .nameAndType 96 97), (0, u "copyDirtyRegions"), (0, u "(II)V"), (0, .methodref 8 99), (0, .nameAndType 100 6), (0, u "clearBitmap"), (0, .methodref 8 102), (0, .nameAndType 103 70), (0, u "ageOthers"), (0, .methodref 8 105), (0, .nameAndType 106 107), (0, u "bothActive"), (0, u "()Z"), (0, .methodref 8 109), (0, .nameAndType 110 6), (0, u "clearAged"), (0, u "OK"), (2, u "ERR_DOWN"), (1, u "ERR_ARG"), (1, u "ERR_BUSY"), (1, u "ERR_STATE"), (1, u "ERR_IDLE"), (1, u "STEP_LEG0"), (1, u "STEP_LEG1"), (1, u "STEP_ACKED"), (1, u "ACTIVE"), (0, u "STALE"), (0, u "FAILED"), (0, u "NONE"), (0, u "MAX_VALUE"), (0, u "STRIDE"), (1, u "(III)V"), (2, u "write"), (0, u "(II)I"), (1, u "step"), (0, u "crash"), (0, u "restart"), (0, u "failLeg"), (0, u "reattachLeg"), (0, u "replaceLeg"), (0, u "resync"), (0, u "read"), (0, u "peek"), (0, u "legState"), (0, u "pendingBlock"), (0, u "pendingCursor"), (0, u "isDown"), (0, u "ackedValue")] 2

def k2c0 : Code := { maxStack := 4, maxLocals := 4, code := prog_1_method_1_code, exceptionTable := #[], attributes := #[] }
def k2m0 : Method := { name := "<init>", desc := "(III)V", sig := { parameters := [.int, .int, .int], returnType := none }, accessFlags := 1, code := some k2c0 }
def k2c1 : Code := { maxStack := 3, maxLocals := 3, code := prog_1_method_2_code, exceptionTable := #[], attributes := #[] }
def k2m1 : Method := { name := "write", desc := "(II)I", sig := { parameters := [.int, .int], returnType := some .int }, accessFlags := 1, code := some k2c1 }
def k2c2 : Code := { maxStack := 3, maxLocals := 2, code := prog_1_method_3_code, exceptionTable := #[], attributes := #[] }
def k2m2 : Method := { name := "step", desc := "()I", sig := { parameters := [], returnType := some .int }, accessFlags := 1, code := some k2c2 }
def k2c3 : Code := { maxStack := 2, maxLocals := 1, code := prog_1_method_4_code, exceptionTable := #[], attributes := #[] }
def k2m3 : Method := { name := "crash", desc := "()I", sig := { parameters := [], returnType := some .int }, accessFlags := 1, code := some k2c3 }
def k2c4 : Code := { maxStack := 3, maxLocals := 1, code := prog_1_method_5_code, exceptionTable := #[], attributes := #[] }
def k2m4 : Method := { name := "restart", desc := "()I", sig := { parameters := [], returnType := some .int }, accessFlags := 1, code := some k2c4 }
def k2c5 : Code := { maxStack := 3, maxLocals := 2, code := prog_1_method_6_code, exceptionTable := #[], attributes := #[] }
def k2m5 : Method := { name := "failLeg", desc := "(I)I", sig := { parameters := [.int], returnType := some .int }, accessFlags := 1, code := some k2c5 }
def k2c6 : Code := { maxStack := 3, maxLocals := 3, code := prog_1_method_7_code, exceptionTable := #[], attributes := #[] }
def k2m6 : Method := { name := "reattachLeg", desc := "(I)I", sig := { parameters := [.int], returnType := some .int }, accessFlags := 1, code := some k2c6 }
def k2c7 : Code := { maxStack := 3, maxLocals := 3, code := prog_1_method_8_code, exceptionTable := #[], attributes := #[] }
def k2m7 : Method := { name := "replaceLeg", desc := "(I)I", sig := { parameters := [.int], returnType := some .int }, accessFlags := 1, code := some k2c7 }
def k2c8 : Code := { maxStack := 3, maxLocals := 2, code := prog_1_method_9_code, exceptionTable := #[], attributes := #[] }
def k2m8 : Method := { name := "resync", desc := "()I", sig := { parameters := [], returnType := some .int }, accessFlags := 1, code := some k2c8 }
def k2c9 : Code := { maxStack := 3, maxLocals := 3, code := prog_1_method_10_code, exceptionTable := #[], attributes := #[] }
def k2m9 : Method := { name := "read", desc := "(I)I", sig := { parameters := [.int], returnType := some .int }, accessFlags := 1, code := some k2c9 }
def k2c10 : Code := { maxStack := 3, maxLocals := 3, code := prog_1_method_11_code, exceptionTable := #[], attributes := #[] }
def k2m10 : Method := { name := "peek", desc := "(II)I", sig := { parameters := [.int, .int], returnType := some .int }, accessFlags := 1, code := some k2c10 }
def k2c11 : Code := { maxStack := 2, maxLocals := 2, code := prog_1_method_12_code, exceptionTable := #[], attributes := #[] }
def k2m11 : Method := { name := "legState", desc := "(I)I", sig := { parameters := [.int], returnType := some .int }, accessFlags := 1, code := some k2c11 }
def k2c12 : Code := { maxStack := 1, maxLocals := 1, code := prog_1_method_13_code, exceptionTable := #[], attributes := #[] }
def k2m12 : Method := { name := "pendingBlock", desc := "()I", sig := { parameters := [], returnType := some .int }, accessFlags := 1, code := some k2c12 }
def k2c13 : Code := { maxStack := 1, maxLocals := 1, code := prog_1_method_14_code, exceptionTable := #[], attributes := #[] }
def k2m13 : Method := { name := "pendingCursor", desc := "()I", sig := { parameters := [], returnType := some .int }, accessFlags := 1, code := some k2c13 }
def k2c14 : Code := { maxStack := 1, maxLocals := 1, code := prog_1_method_15_code, exceptionTable := #[], attributes := #[] }
def k2m14 : Method := { name := "isDown", desc := "()Z", sig := { parameters := [], returnType := some .boolean }, accessFlags := 1, code := some k2c14 }
def k2c15 : Code := { maxStack := 2, maxLocals := 2, code := prog_1_method_16_code, exceptionTable := #[], attributes := #[] }
def k2m15 : Method := { name := "ackedValue", desc := "(I)I", sig := { parameters := [.int], returnType := some .int }, accessFlags := 1, code := some k2c15 }
def k2c16 : Code := { maxStack := 2, maxLocals := 3, code := prog_1_method_17_code, exceptionTable := #[], attributes := #[] }
def k2m16 : Method := { name := "clamp", desc := "(III)I", sig := { parameters := [.int, .int, .int], returnType := some .int }, accessFlags := 10, code := some k2c16 }
def k2c17 : Code := { maxStack := 2, maxLocals := 2, code := prog_1_method_18_code, exceptionTable := #[], attributes := #[] }
def k2m17 : Method := { name := "validBlock", desc := "(I)Z", sig := { parameters := [.int], returnType := some .boolean }, accessFlags := 2, code := some k2c17 }
def k2c18 : Code := { maxStack := 2, maxLocals := 2, code := prog_1_method_19_code, exceptionTable := #[], attributes := #[] }
def k2m18 : Method := { name := "validLeg", desc := "(I)Z", sig := { parameters := [.int], returnType := some .boolean }, accessFlags := 2, code := some k2c18 }
def k2c19 : Code := { maxStack := 2, maxLocals := 1, code := prog_1_method_20_code, exceptionTable := #[], attributes := #[] }
def k2m19 : Method := { name := "bothActive", desc := "()Z", sig := { parameters := [], returnType := some .boolean }, accessFlags := 2, code := some k2c19 }
def k2c20 : Code := { maxStack := 2, maxLocals := 2, code := prog_1_method_21_code, exceptionTable := #[], attributes := #[] }
def k2m20 : Method := { name := "checkDetached", desc := "(I)I", sig := { parameters := [.int], returnType := some .int }, accessFlags := 2, code := some k2c20 }
def k2c21 : Code := { maxStack := 2, maxLocals := 1, code := prog_1_method_22_code, exceptionTable := #[], attributes := #[] }
def k2m21 : Method := { name := "staleLeg", desc := "()I", sig := { parameters := [], returnType := some .int }, accessFlags := 2, code := some k2c21 }
def k2c22 : Code := { maxStack := 2, maxLocals := 1, code := prog_1_method_23_code, exceptionTable := #[], attributes := #[] }
def k2m22 : Method := { name := "clearPending", desc := "()V", sig := { parameters := [], returnType := none }, accessFlags := 2, code := some k2c22 }
def k2c23 : Code := { maxStack := 3, maxLocals := 3, code := prog_1_method_24_code, exceptionTable := #[], attributes := #[] }
def k2m23 : Method := { name := "acknowledge", desc := "()V", sig := { parameters := [], returnType := none }, accessFlags := 2, code := some k2c23 }
def k2c24 : Code := { maxStack := 4, maxLocals := 3, code := prog_1_method_25_code, exceptionTable := #[], attributes := #[] }
def k2m24 : Method := { name := "ageOthers", desc := "(I)V", sig := { parameters := [.int], returnType := none }, accessFlags := 2, code := some k2c24 }
def k2c25 : Code := { maxStack := 3, maxLocals := 2, code := prog_1_method_26_code, exceptionTable := #[], attributes := #[] }
def k2m25 : Method := { name := "clearAged", desc := "()V", sig := { parameters := [], returnType := none }, accessFlags := 2, code := some k2c25 }
def k2c26 : Code := { maxStack := 3, maxLocals := 2, code := prog_1_method_27_code, exceptionTable := #[], attributes := #[] }
def k2m26 : Method := { name := "markDirty", desc := "(I)V", sig := { parameters := [.int], returnType := none }, accessFlags := 2, code := some k2c26 }
def k2c27 : Code := { maxStack := 2, maxLocals := 2, code := prog_1_method_28_code, exceptionTable := #[], attributes := #[] }
def k2m27 : Method := { name := "markAllDirty", desc := "()V", sig := { parameters := [], returnType := none }, accessFlags := 2, code := some k2c27 }
def k2c28 : Code := { maxStack := 3, maxLocals := 2, code := prog_1_method_29_code, exceptionTable := #[], attributes := #[] }
def k2m28 : Method := { name := "clearBitmap", desc := "()V", sig := { parameters := [], returnType := none }, accessFlags := 2, code := some k2c28 }
def k2c29 : Code := { maxStack := 3, maxLocals := 4, code := prog_1_method_30_code, exceptionTable := #[], attributes := #[] }
def k2m29 : Method := { name := "zeroLeg", desc := "(I)V", sig := { parameters := [.int], returnType := none }, accessFlags := 2, code := some k2c29 }
def k2c30 : Code := { maxStack := 5, maxLocals := 9, code := prog_1_method_31_code, exceptionTable := #[], attributes := #[] }
def k2m30 : Method := { name := "copyDirtyRegions", desc := "(II)V", sig := { parameters := [.int, .int], returnType := none }, accessFlags := 2, code := some k2c30 }
/-- MirrorResync -/
def k2 : Class := { plain "MirrorResync" (some 0) with
  accessFlags := 49
  interfaces := #[]
  cf := some (fileOf pool2 8 #[] #[{ accessFlags := 1, nameIndex := 5, descriptorIndex := 137, attributes := #[] }, { accessFlags := 1, nameIndex := 140, descriptorIndex := 141, attributes := #[] }, { accessFlags := 1, nameIndex := 143, descriptorIndex := 93, attributes := #[] }, { accessFlags := 1, nameIndex := 144, descriptorIndex := 93, attributes := #[] }, { accessFlags := 1, nameIndex := 145, descriptorIndex := 93, attributes := #[] }, { accessFlags := 1, nameIndex := 146, descriptorIndex := 83, attributes := #[] }, { accessFlags := 1, nameIndex := 147, descriptorIndex := 83, attributes := #[] }, { accessFlags := 1, nameIndex := 148, descriptorIndex := 83, attributes := #[] }, { accessFlags := 1, nameIndex := 149, descriptorIndex := 93, attributes := #[] }, { accessFlags := 1, nameIndex := 150, descriptorIndex := 83, attributes := #[] }, { accessFlags := 1, nameIndex := 151, descriptorIndex := 141, attributes := #[] }, { accessFlags := 1, nameIndex := 152, descriptorIndex := 83, attributes := #[] }, { accessFlags := 1, nameIndex := 153, descriptorIndex := 93, attributes := #[] }, { accessFlags := 1, nameIndex := 154, descriptorIndex := 93, attributes := #[] }, { accessFlags := 1, nameIndex := 155, descriptorIndex := 107, attributes := #[] }, { accessFlags := 1, nameIndex := 156, descriptorIndex := 83, attributes := #[] }, { accessFlags := 10, nameIndex := 31, descriptorIndex := 32, attributes := #[] }, { accessFlags := 2, nameIndex := 64, descriptorIndex := 65, attributes := #[] }, { accessFlags := 2, nameIndex := 79, descriptorIndex := 65, attributes := #[] }, { accessFlags := 2, nameIndex := 106, descriptorIndex := 107, attributes := #[] }, { accessFlags := 2, nameIndex := 82, descriptorIndex := 83, attributes := #[] }, { accessFlags := 2, nameIndex := 92, descriptorIndex := 93, attributes := #[] }, { accessFlags := 2, nameIndex := 76, descriptorIndex := 6, attributes := #[] }, { accessFlags := 2, nameIndex := 73, descriptorIndex := 6, attributes := #[] }, { accessFlags := 2, nameIndex := 103, descriptorIndex := 70, attributes := #[] }, { accessFlags := 2, nameIndex := 110, descriptorIndex := 6, attributes := #[] }, { accessFlags := 2, nameIndex := 69, descriptorIndex := 70, attributes := #[] }, { accessFlags := 2, nameIndex := 89, descriptorIndex := 6, attributes := #[] }, { accessFlags := 2, nameIndex := 100, descriptorIndex := 6, attributes := #[] }, { accessFlags := 2, nameIndex := 86, descriptorIndex := 70, attributes := #[] }, { accessFlags := 2, nameIndex := 96, descriptorIndex := 97, attributes := #[] }] 49 2 #[] #[{ accessFlags := 25, nameIndex := 111, descriptorIndex := 36, attributes := #[] }, { accessFlags := 25, nameIndex := 114, descriptorIndex := 36, attributes := #[] }, { accessFlags := 25, nameIndex := 116, descriptorIndex := 36, attributes := #[] }, { accessFlags := 25, nameIndex := 118, descriptorIndex := 36, attributes := #[] }, { accessFlags := 25, nameIndex := 120, descriptorIndex := 36, attributes := #[] }, { accessFlags := 25, nameIndex := 122, descriptorIndex := 36, attributes := #[] }, { accessFlags := 25, nameIndex := 124, descriptorIndex := 36, attributes := #[] }, { accessFlags := 25, nameIndex := 126, descriptorIndex := 36, attributes := #[] }, { accessFlags := 25, nameIndex := 128, descriptorIndex := 36, attributes := #[] }, { accessFlags := 25, nameIndex := 130, descriptorIndex := 36, attributes := #[] }, { accessFlags := 25, nameIndex := 131, descriptorIndex := 36, attributes := #[] }, { accessFlags := 25, nameIndex := 132, descriptorIndex := 36, attributes := #[] }, { accessFlags := 25, nameIndex := 133, descriptorIndex := 36, attributes := #[] }, { accessFlags := 25, nameIndex := 134, descriptorIndex := 36, attributes := #[] }, { accessFlags := 26, nameIndex := 135, descriptorIndex := 36, attributes := #[] }, { accessFlags := 2, nameIndex := 11, descriptorIndex := 12, attributes := #[] }, { accessFlags := 2, nameIndex := 15, descriptorIndex := 12, attributes := #[] }, { accessFlags := 2, nameIndex := 18, descriptorIndex := 12, attributes := #[] }, { accessFlags := 2, nameIndex := 21, descriptorIndex := 22, attributes := #[] }, { accessFlags := 2, nameIndex := 25, descriptorIndex := 22, attributes := #[] }, { accessFlags := 2, nameIndex := 28, descriptorIndex := 12, attributes := #[] }, { accessFlags := 2, nameIndex := 35, descriptorIndex := 36, attributes := #[] }, { accessFlags := 2, nameIndex := 39, descriptorIndex := 36, attributes := #[] }, { accessFlags := 2, nameIndex := 42, descriptorIndex := 36, attributes := #[] }, { accessFlags := 2, nameIndex := 45, descriptorIndex := 36, attributes := #[] }, { accessFlags := 2, nameIndex := 48, descriptorIndex := 49, attributes := #[] }, { accessFlags := 2, nameIndex := 52, descriptorIndex := 49, attributes := #[] }, { accessFlags := 2, nameIndex := 55, descriptorIndex := 36, attributes := #[] }, { accessFlags := 2, nameIndex := 58, descriptorIndex := 36, attributes := #[] }, { accessFlags := 2, nameIndex := 61, descriptorIndex := 36, attributes := #[] }])
  fields := #[{ name := "OK", type := .int, accessFlags := 25, slot := 0, constantValue := 0 }, { name := "ERR_DOWN", type := .int, accessFlags := 25, slot := 1, constantValue := 0 }, { name := "ERR_ARG", type := .int, accessFlags := 25, slot := 2, constantValue := 0 }, { name := "ERR_BUSY", type := .int, accessFlags := 25, slot := 3, constantValue := 0 }, { name := "ERR_STATE", type := .int, accessFlags := 25, slot := 4, constantValue := 0 }, { name := "ERR_IDLE", type := .int, accessFlags := 25, slot := 5, constantValue := 0 }, { name := "STEP_LEG0", type := .int, accessFlags := 25, slot := 6, constantValue := 0 }, { name := "STEP_LEG1", type := .int, accessFlags := 25, slot := 7, constantValue := 0 }, { name := "STEP_ACKED", type := .int, accessFlags := 25, slot := 8, constantValue := 0 }, { name := "ACTIVE", type := .int, accessFlags := 25, slot := 9, constantValue := 0 }, { name := "STALE", type := .int, accessFlags := 25, slot := 10, constantValue := 0 }, { name := "FAILED", type := .int, accessFlags := 25, slot := 11, constantValue := 0 }, { name := "NONE", type := .int, accessFlags := 25, slot := 12, constantValue := 0 }, { name := "MAX_VALUE", type := .int, accessFlags := 25, slot := 13, constantValue := 0 }, { name := "STRIDE", type := .int, accessFlags := 26, slot := 14, constantValue := 0 }, { name := "data", type := (.array .int), accessFlags := 2, slot := 0, constantValue := 0 }, { name := "acked", type := (.array .int), accessFlags := 2, slot := 1, constantValue := 0 }, { name := "state", type := (.array .int), accessFlags := 2, slot := 2, constantValue := 0 }, { name := "dirty", type := (.array .boolean), accessFlags := 2, slot := 3, constantValue := 0 }, { name := "pending", type := (.array .boolean), accessFlags := 2, slot := 4, constantValue := 0 }, { name := "age", type := (.array .int), accessFlags := 2, slot := 5, constantValue := 0 }, { name := "n", type := .int, accessFlags := 2, slot := 6, constantValue := 0 }, { name := "regionSize", type := .int, accessFlags := 2, slot := 7, constantValue := 0 }, { name := "clearDelay", type := .int, accessFlags := 2, slot := 8, constantValue := 0 }, { name := "regions", type := .int, accessFlags := 2, slot := 9, constantValue := 0 }, { name := "down", type := .boolean, accessFlags := 2, slot := 10, constantValue := 0 }, { name := "busy", type := .boolean, accessFlags := 2, slot := 11, constantValue := 0 }, { name := "pBlock", type := .int, accessFlags := 2, slot := 12, constantValue := 0 }, { name := "pValue", type := .int, accessFlags := 2, slot := 13, constantValue := 0 }, { name := "pCursor", type := .int, accessFlags := 2, slot := 14, constantValue := 0 }]
  methods := #[k2m0, k2m1, k2m2, k2m3, k2m4, k2m5, k2m6, k2m7, k2m8, k2m9, k2m10, k2m11, k2m12, k2m13, k2m14, k2m15, k2m16, k2m17, k2m18, k2m19, k2m20, k2m21, k2m22, k2m23, k2m24, k2m25, k2m26, k2m27, k2m28, k2m29, k2m30]
  instanceTypes := #[(.array .int), (.array .int), (.array .int), (.array .boolean), (.array .boolean), (.array .int), .int, .int, .int, .int, .boolean, .boolean, .int, .int, .int]
  staticTypes := #[.int, .int, .int, .int, .int, .int, .int, .int, .int, .int, .int, .int, .int, .int, .int]
  resolved := Array.replicate 159 none
  statics := none }

def pool3 : Array CpInfo := pool [(1, u "java/lang/Cloneable"), (0, .class_ 1), (0, u "java/lang/Object"), (0, .class_ 3)] 3

/-- java/lang/Cloneable -/
def k3 : Class := { plain "java/lang/Cloneable" (some 0) with
  accessFlags := 1537
  interfaces := #[]
  cf := some (fileOf pool3 2 #[] #[] 1537 4 #[] #[])
  fields := #[]
  methods := #[]
  instanceTypes := #[]
  staticTypes := #[]
  resolved := Array.replicate 8 none
  statics := none }

def pool4 : Array CpInfo := pool [(1, u "java/io/Serializable"), (0, .class_ 1), (0, u "java/lang/Object"), (0, .class_ 3)] 3

/-- java/io/Serializable -/
def k4 : Class := { plain "java/io/Serializable" (some 0) with
  accessFlags := 1537
  interfaces := #[]
  cf := some (fileOf pool4 2 #[] #[] 1537 4 #[] #[])
  fields := #[]
  methods := #[]
  instanceTypes := #[]
  staticTypes := #[]
  resolved := Array.replicate 8 none
  statics := none }

/-- the primitive boolean -/
def k5 : Class := { plain "boolean" none with kind := .primitive 'Z', accessFlags := 0x411 }
/-- [Z -/
def k6 : Class := { plain "[Z" (some 0) with kind := .array 5 .boolean, interfaces := #[3, 4], accessFlags := 1041 }

/-- the primitive byte -/
def k7 : Class := { plain "byte" none with kind := .primitive 'B', accessFlags := 0x411 }
/-- [B -/
def k8 : Class := { plain "[B" (some 0) with kind := .array 7 .byte, interfaces := #[3, 4], accessFlags := 1041 }

/-- the primitive int -/
def k9 : Class := { plain "int" none with kind := .primitive 'I', accessFlags := 0x411 }
/-- [I -/
def k10 : Class := { plain "[I" (some 0) with kind := .array 9 .int, interfaces := #[3, 4], accessFlags := 1041 }

def heap : Heap := #[{ cls := 10, slots := #[.int 0, .int 3, .int 5], vm := .none }]
def classes : Array Class := #[k0, k1, k2, k3, k4, k5, k6, k7, k8, k9, k10]
def interned : List (Array UInt16 × Addr) := []
def slotsUsed : Nat := 3
def theMethod : MethodId := ⟨1, 4⟩
def args0 : Array Value := #[.ref 0]
def aboutOver (below : List Frame) : State where
  vm := { classes := classes, interned := interned.toArray }
  heap := heap
  slotsUsed := slotsUsed
  threads := #[{ frames := .invoking theMethod args0 :: below }]
def below0 : List Frame := [.native { method := ⟨0, 0⟩, args := #[] }]
def about1 : State := aboutOver below0
def p0 : Program := .bare "" "" ""
def e0 : Env := launch0.env 0 0 0
theorem w_frames : about1.frames = Frame.invoking theMethod args0 :: below0 := rfl
set_option maxRecDepth 65536 in
theorem w_args : argsFit about1.vm theMethod args0 = true := by decide +kernel
set_option maxRecDepth 65536 in
theorem w_heap : heapFits about1 = true := by decide +kernel
set_option maxRecDepth 65536 in
theorem w_runnable : about1.curStatus? = some .runnable := by decide +kernel
set_option maxRecDepth 65536 in
theorem w_alone : about1.alone = true := by decide +kernel
set_option maxRecDepth 65536 in
theorem w_named : about1.methodNamed? x = some theMethod := by decide +kernel
set_option maxRecDepth 65536 in
theorem w_hears : about1.hears theMethod below0 = true := by decide +kernel
set_option maxRecDepth 65536 in
theorem w_ripe : about1.ripe theMethod args0 below0 = true := by decide +kernel
theorem w_running : about1.status = .running := rfl
set_option maxRecDepth 65536 in
theorem w_room : about1.hasRoom e0.platform room_1 = true :=
  launch0.hasRoom_least _ room_1 (by decide +kernel) (by decide +kernel) (by decide +kernel) (by decide +kernel) (by decide +kernel) (by decide +kernel)
theorem allAtoms_all (ts : List Jvm.Cond) (a : Array Jvm.Value) (st : Jvm.State) : (allAtoms ts).before a st = ts.all (fun c => c.before a st) := by
  induction ts with
  | nil => rfl
  | cons c t ih =>
    show (Jvm.Cond.and c (allAtoms t)).before a st = _
    rw [Jvm.Cond.before_and, ih, List.all_cons]
def words1 : List Jvm.Cond := Jvm.Cond.code x code maxLocals ret :: tables_1
/-- a 'code' word, met by the world's own term for the bytes: nothing is compared byte by byte -/
theorem code_word {y : MethodName} {bytes : ByteArray} {mx : Nat} {rt : Option FieldType} {a : Array Value} {s : State} {m : MethodId} {meth : Method} {c : Code} (h1 : s.methodNamed? y = some m) (h2 : s.vm.method? m = some meth) (h3 : meth.code = some c) (h4 : c.code = bytes)
    (h5 : (c.maxLocals == mx && c.exceptionTable.isEmpty && decide (c.maxStack ≤ mostOperands) && decide (meth.sig.returnType = rt) && !meth.locks && decide (parseMethodDescriptor y.desc = some meth.sig)) = true) : (Jvm.Cond.code y bytes mx rt).before a s = true := by
  simp only [Bool.and_eq_true, beq_iff_eq, Bool.not_eq_true', decide_eq_true_eq] at h5
  obtain ⟨⟨⟨⟨⟨g1, g2⟩, g3⟩, g4⟩, g5⟩, g6⟩ := h5
  simp [Cond.before, Cond.holds, Cond.value, h1, h2, h3, h4, g1, g2, g3, g4, g5, g6]
def isCode : Jvm.Cond → Bool
  | .code _ _ _ _ => true
  | _ => false
theorem all_split {L : List Jvm.Cond} {P : Jvm.Cond → Bool} (h1 : L.all (fun c => isCode c || P c) = true) (h2 : ∀ c ∈ L.filter isCode, P c = true) : L.all P = true := by
  refine List.all_eq_true.mpr fun c hc => ?_
  have h := List.all_eq_true.mp h1 c hc
  rcases Bool.eq_false_or_eq_true (isCode c) with hi | hi
  · exact h2 c (List.mem_filter.mpr ⟨hc, hi⟩)
  · simpa [hi] using h
set_option maxRecDepth 65536 in
theorem w_c0 : (Jvm.Cond.code x code maxLocals ret).before args0 about1 = true := code_word (m := ⟨1, 4⟩) (meth := k1m4) (c := k1c4) (by decide +kernel) rfl rfl rfl (by decide +kernel)
set_option maxRecDepth 65536 in
theorem w_c1 : (Jvm.Cond.code ({ cls := "MirrorResync", name := "<init>", desc := "(III)V" } : Jvm.MethodName) prog_1_method_1_code (4 : Nat) (Option.none : Option Jvm.ClassFile.FieldType)).before args0 about1 = true := code_word (m := ⟨2, 0⟩) (meth := k2m0) (c := k2c0) (by decide +kernel) rfl rfl rfl (by decide +kernel)
set_option maxRecDepth 65536 in
theorem w_c2 : (Jvm.Cond.code ({ cls := "java/lang/Object", name := "<init>", desc := "()V" } : Jvm.MethodName) object_method_1_code (1 : Nat) (Option.none : Option Jvm.ClassFile.FieldType)).before args0 about1 = true := code_word (m := ⟨0, 0⟩) (meth := k0m0) (c := k0c0) (by decide +kernel) rfl rfl rfl (by decide +kernel)
set_option maxRecDepth 65536 in
theorem w_c3 : (Jvm.Cond.code ({ cls := "MirrorResync", name := "clamp", desc := "(III)I" } : Jvm.MethodName) prog_1_method_17_code (3 : Nat) (Option.some Jvm.ClassFile.FieldType.int)).before args0 about1 = true := code_word (m := ⟨2, 16⟩) (meth := k2m16) (c := k2c16) (by decide +kernel) rfl rfl rfl (by decide +kernel)
set_option maxRecDepth 65536 in
theorem w_c4 : (Jvm.Cond.code ({ cls := "MirrorResync", name := "crash", desc := "()I" } : Jvm.MethodName) prog_1_method_4_code (1 : Nat) (Option.some Jvm.ClassFile.FieldType.int)).before args0 about1 = true := code_word (m := ⟨2, 3⟩) (meth := k2m3) (c := k2c3) (by decide +kernel) rfl rfl rfl (by decide +kernel)
set_option maxRecDepth 65536 in
theorem w_c5 : (Jvm.Cond.code ({ cls := "MirrorResync", name := "clearPending", desc := "()V" } : Jvm.MethodName) prog_1_method_23_code (1 : Nat) (Option.none : Option Jvm.ClassFile.FieldType)).before args0 about1 = true := code_word (m := ⟨2, 22⟩) (meth := k2m22) (c := k2c22) (by decide +kernel) rfl rfl rfl (by decide +kernel)
set_option maxRecDepth 65536 in
theorem w_c6 : (Jvm.Cond.code ({ cls := "MirrorResyncL6", name := "agrees", desc := "(LMirrorResync;JJJIIZIIZ)Z" } : Jvm.MethodName) method_4_code (15 : Nat) (Option.some Jvm.ClassFile.FieldType.boolean)).before args0 about1 = true := code_word (m := ⟨1, 3⟩) (meth := k1m3) (c := k1c3) (by decide +kernel) rfl rfl rfl (by decide +kernel)
set_option maxRecDepth 65536 in
theorem w_c7 : (Jvm.Cond.code ({ cls := "MirrorResync", name := "legState", desc := "(I)I" } : Jvm.MethodName) prog_1_method_12_code (2 : Nat) (Option.some Jvm.ClassFile.FieldType.int)).before args0 about1 = true := code_word (m := ⟨2, 11⟩) (meth := k2m11) (c := k2c11) (by decide +kernel) rfl rfl rfl (by decide +kernel)
set_option maxRecDepth 65536 in
theorem w_c8 : (Jvm.Cond.code ({ cls := "MirrorResync", name := "validLeg", desc := "(I)Z" } : Jvm.MethodName) prog_1_method_19_code (2 : Nat) (Option.some Jvm.ClassFile.FieldType.boolean)).before args0 about1 = true := code_word (m := ⟨2, 18⟩) (meth := k2m18) (c := k2c18) (by decide +kernel) rfl rfl rfl (by decide +kernel)
set_option maxRecDepth 65536 in
theorem w_c9 : (Jvm.Cond.code ({ cls := "MirrorResync", name := "isDown", desc := "()Z" } : Jvm.MethodName) prog_1_method_15_code (1 : Nat) (Option.some Jvm.ClassFile.FieldType.boolean)).before args0 about1 = true := code_word (m := ⟨2, 14⟩) (meth := k2m14) (c := k2c14) (by decide +kernel) rfl rfl rfl (by decide +kernel)
set_option maxRecDepth 65536 in
theorem w_c10 : (Jvm.Cond.code ({ cls := "MirrorResync", name := "pendingBlock", desc := "()I" } : Jvm.MethodName) prog_1_method_13_code (1 : Nat) (Option.some Jvm.ClassFile.FieldType.int)).before args0 about1 = true := code_word (m := ⟨2, 12⟩) (meth := k2m12) (c := k2c12) (by decide +kernel) rfl rfl rfl (by decide +kernel)
set_option maxRecDepth 65536 in
theorem w_c11 : (Jvm.Cond.code ({ cls := "MirrorResync", name := "pendingCursor", desc := "()I" } : Jvm.MethodName) prog_1_method_14_code (1 : Nat) (Option.some Jvm.ClassFile.FieldType.int)).before args0 about1 = true := code_word (m := ⟨2, 13⟩) (meth := k2m13) (c := k2c13) (by decide +kernel) rfl rfl rfl (by decide +kernel)
set_option maxRecDepth 65536 in
theorem w_c12 : (Jvm.Cond.code ({ cls := "MirrorResync", name := "read", desc := "(I)I" } : Jvm.MethodName) prog_1_method_10_code (3 : Nat) (Option.some Jvm.ClassFile.FieldType.int)).before args0 about1 = true := code_word (m := ⟨2, 9⟩) (meth := k2m9) (c := k2c9) (by decide +kernel) rfl rfl rfl (by decide +kernel)
set_option maxRecDepth 65536 in
theorem w_c13 : (Jvm.Cond.code ({ cls := "MirrorResync", name := "peek", desc := "(II)I" } : Jvm.MethodName) prog_1_method_11_code (3 : Nat) (Option.some Jvm.ClassFile.FieldType.int)).before args0 about1 = true := code_word (m := ⟨2, 10⟩) (meth := k2m10) (c := k2c10) (by decide +kernel) rfl rfl rfl (by decide +kernel)
set_option maxRecDepth 65536 in
theorem w_c14 : (Jvm.Cond.code ({ cls := "MirrorResync", name := "ackedValue", desc := "(I)I" } : Jvm.MethodName) prog_1_method_16_code (2 : Nat) (Option.some Jvm.ClassFile.FieldType.int)).before args0 about1 = true := code_word (m := ⟨2, 15⟩) (meth := k2m15) (c := k2c15) (by decide +kernel) rfl rfl rfl (by decide +kernel)
set_option maxRecDepth 65536 in
theorem w_c15 : (Jvm.Cond.code ({ cls := "MirrorResync", name := "validBlock", desc := "(I)Z" } : Jvm.MethodName) prog_1_method_18_code (2 : Nat) (Option.some Jvm.ClassFile.FieldType.boolean)).before args0 about1 = true := code_word (m := ⟨2, 17⟩) (meth := k2m17) (c := k2c17) (by decide +kernel) rfl rfl rfl (by decide +kernel)
set_option maxRecDepth 65536 in
theorem w_c16 : (Jvm.Cond.code ({ cls := "MirrorResyncL6", name := "get", desc := "(JI)I" } : Jvm.MethodName) method_2_code (3 : Nat) (Option.some Jvm.ClassFile.FieldType.int)).before args0 about1 = true := code_word (m := ⟨1, 1⟩) (meth := k1m1) (c := k1c1) (by decide +kernel) rfl rfl rfl (by decide +kernel)
set_option maxRecDepth 65536 in
theorem w_c17 : (Jvm.Cond.code ({ cls := "MirrorResync", name := "write", desc := "(II)I" } : Jvm.MethodName) prog_1_method_2_code (3 : Nat) (Option.some Jvm.ClassFile.FieldType.int)).before args0 about1 = true := code_word (m := ⟨2, 1⟩) (meth := k2m1) (c := k2c1) (by decide +kernel) rfl rfl rfl (by decide +kernel)
set_option maxRecDepth 65536 in
theorem w_c18 : (Jvm.Cond.code ({ cls := "MirrorResync", name := "failLeg", desc := "(I)I" } : Jvm.MethodName) prog_1_method_6_code (2 : Nat) (Option.some Jvm.ClassFile.FieldType.int)).before args0 about1 = true := code_word (m := ⟨2, 5⟩) (meth := k2m5) (c := k2c5) (by decide +kernel) rfl rfl rfl (by decide +kernel)
set_option maxRecDepth 65536 in
theorem w_c19 : (Jvm.Cond.code ({ cls := "MirrorResync", name := "restart", desc := "()I" } : Jvm.MethodName) prog_1_method_5_code (1 : Nat) (Option.some Jvm.ClassFile.FieldType.int)).before args0 about1 = true := code_word (m := ⟨2, 4⟩) (meth := k2m4) (c := k2c4) (by decide +kernel) rfl rfl rfl (by decide +kernel)
set_option maxRecDepth 65536 in
theorem w_c20 : (Jvm.Cond.code ({ cls := "MirrorResync", name := "markDirty", desc := "(I)V" } : Jvm.MethodName) prog_1_method_27_code (2 : Nat) (Option.none : Option Jvm.ClassFile.FieldType)).before args0 about1 = true := code_word (m := ⟨2, 26⟩) (meth := k2m26) (c := k2c26) (by decide +kernel) rfl rfl rfl (by decide +kernel)
set_option maxRecDepth 65536 in
theorem w_c21 : (Jvm.Cond.code ({ cls := "MirrorResync", name := "step", desc := "()I" } : Jvm.MethodName) prog_1_method_3_code (2 : Nat) (Option.some Jvm.ClassFile.FieldType.int)).before args0 about1 = true := code_word (m := ⟨2, 2⟩) (meth := k2m2) (c := k2c2) (by decide +kernel) rfl rfl rfl (by decide +kernel)
set_option maxRecDepth 65536 in
theorem w_c22 : (Jvm.Cond.code ({ cls := "MirrorResync", name := "reattachLeg", desc := "(I)I" } : Jvm.MethodName) prog_1_method_7_code (3 : Nat) (Option.some Jvm.ClassFile.FieldType.int)).before args0 about1 = true := code_word (m := ⟨2, 6⟩) (meth := k2m6) (c := k2c6) (by decide +kernel) rfl rfl rfl (by decide +kernel)
set_option maxRecDepth 65536 in
theorem w_c23 : (Jvm.Cond.code ({ cls := "MirrorResync", name := "checkDetached", desc := "(I)I" } : Jvm.MethodName) prog_1_method_21_code (2 : Nat) (Option.some Jvm.ClassFile.FieldType.int)).before args0 about1 = true := code_word (m := ⟨2, 20⟩) (meth := k2m20) (c := k2c20) (by decide +kernel) rfl rfl rfl (by decide +kernel)
set_option maxRecDepth 65536 in
theorem w_c24 : (Jvm.Cond.code ({ cls := "MirrorResyncL6", name := "put", desc := "(JII)J" } : Jvm.MethodName) method_3_code (4 : Nat) (Option.some Jvm.ClassFile.FieldType.long)).before args0 about1 = true := code_word (m := ⟨1, 2⟩) (meth := k1m2) (c := k1c2) (by decide +kernel) rfl rfl rfl (by decide +kernel)
set_option maxRecDepth 65536 in
theorem w_c25 : (Jvm.Cond.code ({ cls := "MirrorResync", name := "resync", desc := "()I" } : Jvm.MethodName) prog_1_method_9_code (2 : Nat) (Option.some Jvm.ClassFile.FieldType.int)).before args0 about1 = true := code_word (m := ⟨2, 8⟩) (meth := k2m8) (c := k2c8) (by decide +kernel) rfl rfl rfl (by decide +kernel)
set_option maxRecDepth 65536 in
theorem w_c26 : (Jvm.Cond.code ({ cls := "MirrorResync", name := "staleLeg", desc := "()I" } : Jvm.MethodName) prog_1_method_22_code (1 : Nat) (Option.some Jvm.ClassFile.FieldType.int)).before args0 about1 = true := code_word (m := ⟨2, 21⟩) (meth := k2m21) (c := k2c21) (by decide +kernel) rfl rfl rfl (by decide +kernel)
set_option maxRecDepth 65536 in
theorem w_c27 : (Jvm.Cond.code ({ cls := "MirrorResync", name := "replaceLeg", desc := "(I)I" } : Jvm.MethodName) prog_1_method_8_code (3 : Nat) (Option.some Jvm.ClassFile.FieldType.int)).before args0 about1 = true := code_word (m := ⟨2, 7⟩) (meth := k2m7) (c := k2c7) (by decide +kernel) rfl rfl rfl (by decide +kernel)
set_option maxRecDepth 65536 in
theorem w_c28 : (Jvm.Cond.code ({ cls := "MirrorResync", name := "copyDirtyRegions", desc := "(II)V" } : Jvm.MethodName) prog_1_method_31_code (9 : Nat) (Option.none : Option Jvm.ClassFile.FieldType)).before args0 about1 = true := code_word (m := ⟨2, 30⟩) (meth := k2m30) (c := k2c30) (by decide +kernel) rfl rfl rfl (by decide +kernel)
set_option maxRecDepth 65536 in
theorem w_c29 : (Jvm.Cond.code ({ cls := "MirrorResync", name := "clearBitmap", desc := "()V" } : Jvm.MethodName) prog_1_method_29_code (2 : Nat) (Option.none : Option Jvm.ClassFile.FieldType)).before args0 about1 = true := code_word (m := ⟨2, 28⟩) (meth := k2m28) (c := k2c28) (by decide +kernel) rfl rfl rfl (by decide +kernel)
set_option maxRecDepth 65536 in
theorem w_c30 : (Jvm.Cond.code ({ cls := "MirrorResync", name := "zeroLeg", desc := "(I)V" } : Jvm.MethodName) prog_1_method_30_code (4 : Nat) (Option.none : Option Jvm.ClassFile.FieldType)).before args0 about1 = true := code_word (m := ⟨2, 29⟩) (meth := k2m29) (c := k2c29) (by decide +kernel) rfl rfl rfl (by decide +kernel)
set_option maxRecDepth 65536 in
theorem w_c31 : (Jvm.Cond.code ({ cls := "MirrorResync", name := "markAllDirty", desc := "()V" } : Jvm.MethodName) prog_1_method_28_code (2 : Nat) (Option.none : Option Jvm.ClassFile.FieldType)).before args0 about1 = true := code_word (m := ⟨2, 27⟩) (meth := k2m27) (c := k2c27) (by decide +kernel) rfl rfl rfl (by decide +kernel)
set_option maxRecDepth 65536 in
theorem w_c32 : (Jvm.Cond.code ({ cls := "MirrorResync", name := "acknowledge", desc := "()V" } : Jvm.MethodName) prog_1_method_24_code (3 : Nat) (Option.none : Option Jvm.ClassFile.FieldType)).before args0 about1 = true := code_word (m := ⟨2, 23⟩) (meth := k2m23) (c := k2c23) (by decide +kernel) rfl rfl rfl (by decide +kernel)
set_option maxRecDepth 65536 in
theorem w_c33 : (Jvm.Cond.code ({ cls := "MirrorResync", name := "ageOthers", desc := "(I)V" } : Jvm.MethodName) prog_1_method_25_code (3 : Nat) (Option.none : Option Jvm.ClassFile.FieldType)).before args0 about1 = true := code_word (m := ⟨2, 24⟩) (meth := k2m24) (c := k2c24) (by decide +kernel) rfl rfl rfl (by decide +kernel)
set_option maxRecDepth 65536 in
theorem w_c34 : (Jvm.Cond.code ({ cls := "MirrorResync", name := "bothActive", desc := "()Z" } : Jvm.MethodName) prog_1_method_20_code (1 : Nat) (Option.some Jvm.ClassFile.FieldType.boolean)).before args0 about1 = true := code_word (m := ⟨2, 19⟩) (meth := k2m19) (c := k2c19) (by decide +kernel) rfl rfl rfl (by decide +kernel)
set_option maxRecDepth 65536 in
theorem w_c35 : (Jvm.Cond.code ({ cls := "MirrorResync", name := "clearAged", desc := "()V" } : Jvm.MethodName) prog_1_method_26_code (2 : Nat) (Option.none : Option Jvm.ClassFile.FieldType)).before args0 about1 = true := code_word (m := ⟨2, 25⟩) (meth := k2m25) (c := k2c25) (by decide +kernel) rfl rfl rfl (by decide +kernel)
def codes1 : List Jvm.Cond := [Jvm.Cond.code x code maxLocals ret, Jvm.Cond.code ({ cls := "MirrorResync", name := "<init>", desc := "(III)V" } : Jvm.MethodName) prog_1_method_1_code (4 : Nat) (Option.none : Option Jvm.ClassFile.FieldType), Jvm.Cond.code ({ cls := "java/lang/Object", name := "<init>", desc := "()V" } : Jvm.MethodName) object_method_1_code (1 : Nat) (Option.none : Option Jvm.ClassFile.FieldType), Jvm.Cond.code ({ cls := "MirrorResync", name := "clamp", desc := "(III)I" } : Jvm.MethodName) prog_1_method_17_code (3 : Nat) (Option.some Jvm.ClassFile.FieldType.int), Jvm.Cond.code ({ cls := "MirrorResync", name := "crash", desc := "()I" } : Jvm.MethodName) prog_1_method_4_code (1 : Nat) (Option.some Jvm.ClassFile.FieldType.int), Jvm.Cond.code ({ cls := "MirrorResync", name := "clearPending", desc := "()V" } : Jvm.MethodName) prog_1_method_23_code (1 : Nat) (Option.none : Option Jvm.ClassFile.FieldType), Jvm.Cond.code ({ cls := "MirrorResyncL6", name := "agrees", desc := "(LMirrorResync;JJJIIZIIZ)Z" } : Jvm.MethodName) method_4_code (15 : Nat) (Option.some Jvm.ClassFile.FieldType.boolean), Jvm.Cond.code ({ cls := "MirrorResync", name := "legState", desc := "(I)I" } : Jvm.MethodName) prog_1_method_12_code (2 : Nat) (Option.some Jvm.ClassFile.FieldType.int), Jvm.Cond.code ({ cls := "MirrorResync", name := "validLeg", desc := "(I)Z" } : Jvm.MethodName) prog_1_method_19_code (2 : Nat) (Option.some Jvm.ClassFile.FieldType.boolean), Jvm.Cond.code ({ cls := "MirrorResync", name := "isDown", desc := "()Z" } : Jvm.MethodName) prog_1_method_15_code (1 : Nat) (Option.some Jvm.ClassFile.FieldType.boolean), Jvm.Cond.code ({ cls := "MirrorResync", name := "pendingBlock", desc := "()I" } : Jvm.MethodName) prog_1_method_13_code (1 : Nat) (Option.some Jvm.ClassFile.FieldType.int), Jvm.Cond.code ({ cls := "MirrorResync", name := "pendingCursor", desc := "()I" } : Jvm.MethodName) prog_1_method_14_code (1 : Nat) (Option.some Jvm.ClassFile.FieldType.int), Jvm.Cond.code ({ cls := "MirrorResync", name := "read", desc := "(I)I" } : Jvm.MethodName) prog_1_method_10_code (3 : Nat) (Option.some Jvm.ClassFile.FieldType.int), Jvm.Cond.code ({ cls := "MirrorResync", name := "peek", desc := "(II)I" } : Jvm.MethodName) prog_1_method_11_code (3 : Nat) (Option.some Jvm.ClassFile.FieldType.int), Jvm.Cond.code ({ cls := "MirrorResync", name := "ackedValue", desc := "(I)I" } : Jvm.MethodName) prog_1_method_16_code (2 : Nat) (Option.some Jvm.ClassFile.FieldType.int), Jvm.Cond.code ({ cls := "MirrorResync", name := "validBlock", desc := "(I)Z" } : Jvm.MethodName) prog_1_method_18_code (2 : Nat) (Option.some Jvm.ClassFile.FieldType.boolean), Jvm.Cond.code ({ cls := "MirrorResyncL6", name := "get", desc := "(JI)I" } : Jvm.MethodName) method_2_code (3 : Nat) (Option.some Jvm.ClassFile.FieldType.int), Jvm.Cond.code ({ cls := "MirrorResync", name := "write", desc := "(II)I" } : Jvm.MethodName) prog_1_method_2_code (3 : Nat) (Option.some Jvm.ClassFile.FieldType.int), Jvm.Cond.code ({ cls := "MirrorResync", name := "failLeg", desc := "(I)I" } : Jvm.MethodName) prog_1_method_6_code (2 : Nat) (Option.some Jvm.ClassFile.FieldType.int), Jvm.Cond.code ({ cls := "MirrorResync", name := "restart", desc := "()I" } : Jvm.MethodName) prog_1_method_5_code (1 : Nat) (Option.some Jvm.ClassFile.FieldType.int), Jvm.Cond.code ({ cls := "MirrorResync", name := "markDirty", desc := "(I)V" } : Jvm.MethodName) prog_1_method_27_code (2 : Nat) (Option.none : Option Jvm.ClassFile.FieldType), Jvm.Cond.code ({ cls := "MirrorResync", name := "step", desc := "()I" } : Jvm.MethodName) prog_1_method_3_code (2 : Nat) (Option.some Jvm.ClassFile.FieldType.int), Jvm.Cond.code ({ cls := "MirrorResync", name := "reattachLeg", desc := "(I)I" } : Jvm.MethodName) prog_1_method_7_code (3 : Nat) (Option.some Jvm.ClassFile.FieldType.int), Jvm.Cond.code ({ cls := "MirrorResync", name := "checkDetached", desc := "(I)I" } : Jvm.MethodName) prog_1_method_21_code (2 : Nat) (Option.some Jvm.ClassFile.FieldType.int), Jvm.Cond.code ({ cls := "MirrorResyncL6", name := "put", desc := "(JII)J" } : Jvm.MethodName) method_3_code (4 : Nat) (Option.some Jvm.ClassFile.FieldType.long), Jvm.Cond.code ({ cls := "MirrorResync", name := "resync", desc := "()I" } : Jvm.MethodName) prog_1_method_9_code (2 : Nat) (Option.some Jvm.ClassFile.FieldType.int), Jvm.Cond.code ({ cls := "MirrorResync", name := "staleLeg", desc := "()I" } : Jvm.MethodName) prog_1_method_22_code (1 : Nat) (Option.some Jvm.ClassFile.FieldType.int), Jvm.Cond.code ({ cls := "MirrorResync", name := "replaceLeg", desc := "(I)I" } : Jvm.MethodName) prog_1_method_8_code (3 : Nat) (Option.some Jvm.ClassFile.FieldType.int), Jvm.Cond.code ({ cls := "MirrorResync", name := "copyDirtyRegions", desc := "(II)V" } : Jvm.MethodName) prog_1_method_31_code (9 : Nat) (Option.none : Option Jvm.ClassFile.FieldType), Jvm.Cond.code ({ cls := "MirrorResync", name := "clearBitmap", desc := "()V" } : Jvm.MethodName) prog_1_method_29_code (2 : Nat) (Option.none : Option Jvm.ClassFile.FieldType), Jvm.Cond.code ({ cls := "MirrorResync", name := "zeroLeg", desc := "(I)V" } : Jvm.MethodName) prog_1_method_30_code (4 : Nat) (Option.none : Option Jvm.ClassFile.FieldType), Jvm.Cond.code ({ cls := "MirrorResync", name := "markAllDirty", desc := "()V" } : Jvm.MethodName) prog_1_method_28_code (2 : Nat) (Option.none : Option Jvm.ClassFile.FieldType), Jvm.Cond.code ({ cls := "MirrorResync", name := "acknowledge", desc := "()V" } : Jvm.MethodName) prog_1_method_24_code (3 : Nat) (Option.none : Option Jvm.ClassFile.FieldType), Jvm.Cond.code ({ cls := "MirrorResync", name := "ageOthers", desc := "(I)V" } : Jvm.MethodName) prog_1_method_25_code (3 : Nat) (Option.none : Option Jvm.ClassFile.FieldType), Jvm.Cond.code ({ cls := "MirrorResync", name := "bothActive", desc := "()Z" } : Jvm.MethodName) prog_1_method_20_code (1 : Nat) (Option.some Jvm.ClassFile.FieldType.boolean), Jvm.Cond.code ({ cls := "MirrorResync", name := "clearAged", desc := "()V" } : Jvm.MethodName) prog_1_method_26_code (2 : Nat) (Option.none : Option Jvm.ClassFile.FieldType)]
set_option maxRecDepth 65536 in
theorem codes_eq : words1.filter isCode = codes1 := rfl
theorem w_codes : ∀ c ∈ words1.filter isCode, c.before args0 about1 = true := by
  rw [codes_eq]
  intro c hc
  simp only [codes1, List.mem_cons, List.not_mem_nil, or_false] at hc
  rcases hc with rfl | rfl | rfl | rfl | rfl | rfl | rfl | rfl | rfl | rfl | rfl | rfl | rfl | rfl | rfl | rfl | rfl | rfl | rfl | rfl | rfl | rfl | rfl | rfl | rfl | rfl | rfl | rfl | rfl | rfl | rfl | rfl | rfl | rfl | rfl | rfl
  · exact w_c0
  · exact w_c1
  · exact w_c2
  · exact w_c3
  · exact w_c4
  · exact w_c5
  · exact w_c6
  · exact w_c7
  · exact w_c8
  · exact w_c9
  · exact w_c10
  · exact w_c11
  · exact w_c12
  · exact w_c13
  · exact w_c14
  · exact w_c15
  · exact w_c16
  · exact w_c17
  · exact w_c18
  · exact w_c19
  · exact w_c20
  · exact w_c21
  · exact w_c22
  · exact w_c23
  · exact w_c24
  · exact w_c25
  · exact w_c26
  · exact w_c27
  · exact w_c28
  · exact w_c29
  · exact w_c30
  · exact w_c31
  · exact w_c32
  · exact w_c33
  · exact w_c34
  · exact w_c35
set_option maxRecDepth 65536 in
theorem w_t1 : (words1.take 24).all (fun c => isCode c || c.before args0 about1) = true := by decide +kernel
set_option maxRecDepth 65536 in
theorem w_t2 : ((words1.drop 24).take 24).all (fun c => isCode c || c.before args0 about1) = true := by decide +kernel
set_option maxRecDepth 65536 in
theorem w_t3 : (((words1.drop 24).drop 24).take 24).all (fun c => isCode c || c.before args0 about1) = true := by decide +kernel
set_option maxRecDepth 65536 in
theorem w_t4 : ((((words1.drop 24).drop 24).drop 24).take 24).all (fun c => isCode c || c.before args0 about1) = true := by decide +kernel
set_option maxRecDepth 65536 in
theorem w_t5 : (((((words1.drop 24).drop 24).drop 24).drop 24).take 24).all (fun c => isCode c || c.before args0 about1) = true := by decide +kernel
set_option maxRecDepth 65536 in
theorem w_t6 : ((((((words1.drop 24).drop 24).drop 24).drop 24).drop 24).take 24).all (fun c => isCode c || c.before args0 about1) = true := by decide +kernel
set_option maxRecDepth 65536 in
theorem w_t7 : (((((((words1.drop 24).drop 24).drop 24).drop 24).drop 24).drop 24).take 24).all (fun c => isCode c || c.before args0 about1) = true := by decide +kernel
set_option maxRecDepth 65536 in
theorem w_t8 : (((((((words1.drop 24).drop 24).drop 24).drop 24).drop 24).drop 24).drop 24).all (fun c => isCode c || c.before args0 about1) = true := by decide +kernel
theorem w_tables : (allAtoms (Jvm.Cond.code x code maxLocals ret :: tables_1)).before args0 about1 = true := by
  rw [allAtoms_all]
  show words1.all (fun c => c.before args0 about1) = true
  refine all_split ?_ w_codes
  rw [← List.take_append_drop 24 words1, List.all_append, w_t1, ← List.take_append_drop 24 (words1.drop 24), List.all_append, w_t2, ← List.take_append_drop 24 ((words1.drop 24).drop 24), List.all_append, w_t3, ← List.take_append_drop 24 (((words1.drop 24).drop 24).drop 24), List.all_append, w_t4, ← List.take_append_drop 24 ((((words1.drop 24).drop 24).drop 24).drop 24), List.all_append, w_t5, ← List.take_append_drop 24 (((((words1.drop 24).drop 24).drop 24).drop 24).drop 24), List.all_append, w_t6, ← List.take_append_drop 24 ((((((words1.drop 24).drop 24).drop 24).drop 24).drop 24).drop 24), List.all_append, w_t7, w_t8]
  rfl
set_option maxRecDepth 65536 in
theorem w_rest : rest_1_c.before args0 about1 = true := by decide +kernel
set_option maxRecDepth 65536 in
theorem w_case : (Jvm.Cond.and given_1 narrow_1).before args0 about1 = true := by decide +kernel
theorem w_applies : (headSpec (Jvm.Cond.code x code maxLocals ret :: tables_1) room_1).applies x e0.platform about1 = true :=
  (Spec.applies_iff w_frames).mpr ⟨w_running, w_runnable, w_alone, w_named, w_hears, w_ripe, w_room, w_tables⟩
theorem atStart : AtStart classFile x code maxLocals ret World_1 tables_1 room_1 Calls_1 rest_1 Pre_1 launch0 p0 e0 about1 theMethod args0 below0 :=
  ⟨lists_1, trivial, launch0.admits_env _ _ _, launch0.least_env, fairChoices_fair.cas, fairChoices_fair.clock, w_frames, w_args, w_heap, w_applies, trivial, w_rest, w_case⟩
end start1
theorem witness_1 : WitnessClaimed_1 := ⟨start1.p0, start1.e0, start1.about1, start1.theMethod, start1.args0, start1.below0, start1.atStart⟩
end Jvm.Pilot.@@N@@
