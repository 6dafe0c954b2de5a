import PyProof.Rows.All
import Wide.All
import OpenK.AllK
import Wide.FinOn
import PySem.Challenge.RW_ui0503_08
set_option maxRecDepth 100000
set_option tactic.hygienic false
set_option Elab.async false
set_option linter.all false
namespace Mine
theorem ob_A  {Z p0 p1 : Prop} (h : (p0 ∧ p1)) (k : p0 → p1 → Z) : Z := by obtain ⟨x0, x1⟩ := h; exact k x0 x1
theorem ob_Ar  {Z p0 p1 : Prop} (k : p0 → p1 → Z) (h : (p0 ∧ p1)) : Z := ob_A h k
theorem ob_AA  {Z p0 p1 p2 : Prop} (h : (p0 ∧ (p1 ∧ p2))) (k : p0 → p1 → p2 → Z) : Z := by obtain ⟨x0, x1, x2⟩ := h; exact k x0 x1 x2
theorem ob_AAr  {Z p0 p1 p2 : Prop} (k : p0 → p1 → p2 → Z) (h : (p0 ∧ (p1 ∧ p2))) : Z := ob_AA h k
theorem ob_AAA  {Z p0 p1 p2 p3 : Prop} (h : (p0 ∧ (p1 ∧ (p2 ∧ p3)))) (k : p0 → p1 → p2 → p3 → Z) : Z := by obtain ⟨x0, x1, x2, x3⟩ := h; exact k x0 x1 x2 x3
theorem ob_AAAr  {Z p0 p1 p2 p3 : Prop} (k : p0 → p1 → p2 → p3 → Z) (h : (p0 ∧ (p1 ∧ (p2 ∧ p3)))) : Z := ob_AAA h k
theorem ob_AAAA  {Z p0 p1 p2 p3 p4 : Prop} (h : (p0 ∧ (p1 ∧ (p2 ∧ (p3 ∧ p4))))) (k : p0 → p1 → p2 → p3 → p4 → Z) : Z := by obtain ⟨x0, x1, x2, x3, x4⟩ := h; exact k x0 x1 x2 x3 x4
theorem ob_AAAAAAA  {Z p0 p1 p2 p3 p4 p5 p6 p7 : Prop} (h : (p0 ∧ (p1 ∧ (p2 ∧ (p3 ∧ (p4 ∧ (p5 ∧ (p6 ∧ p7)))))))) (k : p0 → p1 → p2 → p3 → p4 → p5 → p6 → p7 → Z) : Z := by obtain ⟨x0, x1, x2, x3, x4, x5, x6, x7⟩ := h; exact k x0 x1 x2 x3 x4 x5 x6 x7
theorem ob_AAAAAAAr  {Z p0 p1 p2 p3 p4 p5 p6 p7 : Prop} (k : p0 → p1 → p2 → p3 → p4 → p5 → p6 → p7 → Z) (h : (p0 ∧ (p1 ∧ (p2 ∧ (p3 ∧ (p4 ∧ (p5 ∧ (p6 ∧ p7)))))))) : Z := ob_AAAAAAA h k
theorem ob_AAAAAAAAA  {Z p0 p1 p2 p3 p4 p5 p6 p7 p8 p9 : Prop} (h : (p0 ∧ (p1 ∧ (p2 ∧ (p3 ∧ (p4 ∧ (p5 ∧ (p6 ∧ (p7 ∧ (p8 ∧ p9)))))))))) (k : p0 → p1 → p2 → p3 → p4 → p5 → p6 → p7 → p8 → p9 → Z) : Z := by obtain ⟨x0, x1, x2, x3, x4, x5, x6, x7, x8, x9⟩ := h; exact k x0 x1 x2 x3 x4 x5 x6 x7 x8 x9
theorem ob_AAAAAAAAAr  {Z p0 p1 p2 p3 p4 p5 p6 p7 p8 p9 : Prop} (k : p0 → p1 → p2 → p3 → p4 → p5 → p6 → p7 → p8 → p9 → Z) (h : (p0 ∧ (p1 ∧ (p2 ∧ (p3 ∧ (p4 ∧ (p5 ∧ (p6 ∧ (p7 ∧ (p8 ∧ p9)))))))))) : Z := ob_AAAAAAAAA h k
theorem ob_AAAAAEAA.{ua} {A_ : Sort ua} {p5 p6 p7 : A_ → Prop} {Z p0 p1 p2 p3 p4 : Prop} (h : (p0 ∧ (p1 ∧ (p2 ∧ (p3 ∧ (p4 ∧ (∃ a, (p5 a ∧ (p6 a ∧ p7 a))))))))) (k : p0 → p1 → p2 → p3 → p4 → ∀ a, p5 a → p6 a → p7 a → Z) : Z := by obtain ⟨x0, x1, x2, x3, x4, a, x5, x6, x7⟩ := h; exact k x0 x1 x2 x3 x4 a x5 x6 x7
theorem ob_AAAAAEAAr.{ua} {A_ : Sort ua} {p5 p6 p7 : A_ → Prop} {Z p0 p1 p2 p3 p4 : Prop} (k : p0 → p1 → p2 → p3 → p4 → ∀ a, p5 a → p6 a → p7 a → Z) (h : (p0 ∧ (p1 ∧ (p2 ∧ (p3 ∧ (p4 ∧ (∃ a, (p5 a ∧ (p6 a ∧ p7 a))))))))) : Z := ob_AAAAAEAA h k
theorem ob_AAAAEAA.{ua} {A_ : Sort ua} {p4 p5 p6 : A_ → Prop} {Z p0 p1 p2 p3 : Prop} (h : (p0 ∧ (p1 ∧ (p2 ∧ (p3 ∧ (∃ a, (p4 a ∧ (p5 a ∧ p6 a)))))))) (k : p0 → p1 → p2 → p3 → ∀ a, p4 a → p5 a → p6 a → Z) : Z := by obtain ⟨x0, x1, x2, x3, a, x4, x5, x6⟩ := h; exact k x0 x1 x2 x3 a x4 x5 x6
theorem ob_AAAAEAAr.{ua} {A_ : Sort ua} {p4 p5 p6 : A_ → Prop} {Z p0 p1 p2 p3 : Prop} (k : p0 → p1 → p2 → p3 → ∀ a, p4 a → p5 a → p6 a → Z) (h : (p0 ∧ (p1 ∧ (p2 ∧ (p3 ∧ (∃ a, (p4 a ∧ (p5 a ∧ p6 a)))))))) : Z := ob_AAAAEAA h k
theorem ob_AAAEAA.{ua} {A_ : Sort ua} {p3 p4 p5 : A_ → Prop} {Z p0 p1 p2 : Prop} (h : (p0 ∧ (p1 ∧ (p2 ∧ (∃ a, (p3 a ∧ (p4 a ∧ p5 a))))))) (k : p0 → p1 → p2 → ∀ a, p3 a → p4 a → p5 a → Z) : Z := by obtain ⟨x0, x1, x2, a, x3, x4, x5⟩ := h; exact k x0 x1 x2 a x3 x4 x5
theorem ob_AAAEAAr.{ua} {A_ : Sort ua} {p3 p4 p5 : A_ → Prop} {Z p0 p1 p2 : Prop} (k : p0 → p1 → p2 → ∀ a, p3 a → p4 a → p5 a → Z) (h : (p0 ∧ (p1 ∧ (p2 ∧ (∃ a, (p3 a ∧ (p4 a ∧ p5 a))))))) : Z := ob_AAAEAA h k
theorem ob_AAEA.{ua} {A_ : Sort ua} {p2 p3 : A_ → Prop} {Z p0 p1 : Prop} (h : (p0 ∧ (p1 ∧ (∃ a, (p2 a ∧ p3 a))))) (k : p0 → p1 → ∀ a, p2 a → p3 a → Z) : Z := by obtain ⟨x0, x1, a, x2, x3⟩ := h; exact k x0 x1 a x2 x3
theorem ob_AAEAr.{ua} {A_ : Sort ua} {p2 p3 : A_ → Prop} {Z p0 p1 : Prop} (k : p0 → p1 → ∀ a, p2 a → p3 a → Z) (h : (p0 ∧ (p1 ∧ (∃ a, (p2 a ∧ p3 a))))) : Z := ob_AAEA h k
theorem ob_AAEEAA.{ua, ub} {A_ : Sort ua} {B_ : Sort ub} {p2 p3 p4 : A_ → B_ → Prop} {Z p0 p1 : Prop} (h : (p0 ∧ (p1 ∧ (∃ a, (∃ b, (p2 a b ∧ (p3 a b ∧ p4 a b))))))) (k : p0 → p1 → ∀ a, ∀ b, p2 a b → p3 a b → p4 a b → Z) : Z := by obtain ⟨x0, x1, a, b, x2, x3, x4⟩ := h; exact k x0 x1 a b x2 x3 x4
theorem ob_AE.{ua} {A_ : Sort ua} {p1 : A_ → Prop} {Z p0 : Prop} (h : (p0 ∧ (∃ a, p1 a))) (k : p0 → ∀ a, p1 a → Z) : Z := by obtain ⟨x0, a, x1⟩ := h; exact k x0 a x1
theorem ob_AEAAAA.{ua} {A_ : Sort ua} {p1 p2 p3 p4 p5 : A_ → Prop} {Z p0 : Prop} (h : (p0 ∧ (∃ a, (p1 a ∧ (p2 a ∧ (p3 a ∧ (p4 a ∧ p5 a))))))) (k : p0 → ∀ a, p1 a → p2 a → p3 a → p4 a → p5 a → Z) : Z := by obtain ⟨x0, a, x1, x2, x3, x4, x5⟩ := h; exact k x0 a x1 x2 x3 x4 x5
theorem ob_AEAAAAr.{ua} {A_ : Sort ua} {p1 p2 p3 p4 p5 : A_ → Prop} {Z p0 : Prop} (k : p0 → ∀ a, p1 a → p2 a → p3 a → p4 a → p5 a → Z) (h : (p0 ∧ (∃ a, (p1 a ∧ (p2 a ∧ (p3 a ∧ (p4 a ∧ p5 a))))))) : Z := ob_AEAAAA h k
theorem ob_AEEEA.{ua, ub, uc} {A_ : Sort ua} {B_ : Sort ub} {C_ : Sort uc} {p1 p2 : A_ → B_ → C_ → Prop} {Z p0 : Prop} (h : (p0 ∧ (∃ a, (∃ b, (∃ c, (p1 a b c ∧ p2 a b c)))))) (k : p0 → ∀ a, ∀ b, ∀ c, p1 a b c → p2 a b c → Z) : Z := by obtain ⟨x0, a, b, c, x1, x2⟩ := h; exact k x0 a b c x1 x2
theorem ob_AEEEAr.{ua, ub, uc} {A_ : Sort ua} {B_ : Sort ub} {C_ : Sort uc} {p1 p2 : A_ → B_ → C_ → Prop} {Z p0 : Prop} (k : p0 → ∀ a, ∀ b, ∀ c, p1 a b c → p2 a b c → Z) (h : (p0 ∧ (∃ a, (∃ b, (∃ c, (p1 a b c ∧ p2 a b c)))))) : Z := ob_AEEEA h k
theorem ob_AEEEAA.{ua, ub, uc} {A_ : Sort ua} {B_ : Sort ub} {C_ : Sort uc} {p1 p2 p3 : A_ → B_ → C_ → Prop} {Z p0 : Prop} (h : (p0 ∧ (∃ a, (∃ b, (∃ c, (p1 a b c ∧ (p2 a b c ∧ p3 a b c))))))) (k : p0 → ∀ a, ∀ b, ∀ c, p1 a b c → p2 a b c → p3 a b c → Z) : Z := by obtain ⟨x0, a, b, c, x1, x2, x3⟩ := h; exact k x0 a b c x1 x2 x3
theorem ob_AEEEAAr.{ua, ub, uc} {A_ : Sort ua} {B_ : Sort ub} {C_ : Sort uc} {p1 p2 p3 : A_ → B_ → C_ → Prop} {Z p0 : Prop} (k : p0 → ∀ a, ∀ b, ∀ c, p1 a b c → p2 a b c → p3 a b c → Z) (h : (p0 ∧ (∃ a, (∃ b, (∃ c, (p1 a b c ∧ (p2 a b c ∧ p3 a b c))))))) : Z := ob_AEEEAA h k
theorem ob_AEEEEAAAA.{ua, ub, uc, ud} {A_ : Sort ua} {B_ : Sort ub} {C_ : Sort uc} {D_ : Sort ud} {p1 p2 p3 p4 p5 : A_ → B_ → C_ → D_ → Prop} {Z p0 : Prop} (h : (p0 ∧ (∃ a, (∃ b, (∃ c, (∃ d, (p1 a b c d ∧ (p2 a b c d ∧ (p3 a b c d ∧ (p4 a b c d ∧ p5 a b c d)))))))))) (k : p0 → ∀ a, ∀ b, ∀ c, ∀ d, p1 a b c d → p2 a b c d → p3 a b c d → p4 a b c d → p5 a b c d → Z) : Z := by obtain ⟨x0, a, b, c, d, x1, x2, x3, x4, x5⟩ := h; exact k x0 a b c d x1 x2 x3 x4 x5
theorem ob_AEEEEAAAAr.{ua, ub, uc, ud} {A_ : Sort ua} {B_ : Sort ub} {C_ : Sort uc} {D_ : Sort ud} {p1 p2 p3 p4 p5 : A_ → B_ → C_ → D_ → Prop} {Z p0 : Prop} (k : p0 → ∀ a, ∀ b, ∀ c, ∀ d, p1 a b c d → p2 a b c d → p3 a b c d → p4 a b c d → p5 a b c d → Z) (h : (p0 ∧ (∃ a, (∃ b, (∃ c, (∃ d, (p1 a b c d ∧ (p2 a b c d ∧ (p3 a b c d ∧ (p4 a b c d ∧ p5 a b c d)))))))))) : Z := ob_AEEEEAAAA h k
theorem ob_E.{ua} {A_ : Sort ua} {p0 : A_ → Prop} {Z : Prop} (h : (∃ a, p0 a)) (k : ∀ a, p0 a → Z) : Z := by obtain ⟨a, x0⟩ := h; exact k a x0
theorem ob_Er.{ua} {A_ : Sort ua} {p0 : A_ → Prop} {Z : Prop} (k : ∀ a, p0 a → Z) (h : (∃ a, p0 a)) : Z := ob_E h k
theorem ob_EA.{ua} {A_ : Sort ua} {p0 p1 : A_ → Prop} {Z : Prop} (h : (∃ a, (p0 a ∧ p1 a))) (k : ∀ a, p0 a → p1 a → Z) : Z := by obtain ⟨a, x0, x1⟩ := h; exact k a x0 x1
theorem ob_EAr.{ua} {A_ : Sort ua} {p0 p1 : A_ → Prop} {Z : Prop} (k : ∀ a, p0 a → p1 a → Z) (h : (∃ a, (p0 a ∧ p1 a))) : Z := ob_EA h k
theorem ob_EAA.{ua} {A_ : Sort ua} {p0 p1 p2 : A_ → Prop} {Z : Prop} (h : (∃ a, (p0 a ∧ (p1 a ∧ p2 a)))) (k : ∀ a, p0 a → p1 a → p2 a → Z) : Z := by obtain ⟨a, x0, x1, x2⟩ := h; exact k a x0 x1 x2
theorem ob_EAAr.{ua} {A_ : Sort ua} {p0 p1 p2 : A_ → Prop} {Z : Prop} (k : ∀ a, p0 a → p1 a → p2 a → Z) (h : (∃ a, (p0 a ∧ (p1 a ∧ p2 a)))) : Z := ob_EAA h k
theorem ob_EAAA.{ua} {A_ : Sort ua} {p0 p1 p2 p3 : A_ → Prop} {Z : Prop} (h : (∃ a, (p0 a ∧ (p1 a ∧ (p2 a ∧ p3 a))))) (k : ∀ a, p0 a → p1 a → p2 a → p3 a → Z) : Z := by obtain ⟨a, x0, x1, x2, x3⟩ := h; exact k a x0 x1 x2 x3
theorem ob_EAAAA.{ua} {A_ : Sort ua} {p0 p1 p2 p3 p4 : A_ → Prop} {Z : Prop} (h : (∃ a, (p0 a ∧ (p1 a ∧ (p2 a ∧ (p3 a ∧ p4 a)))))) (k : ∀ a, p0 a → p1 a → p2 a → p3 a → p4 a → Z) : Z := by obtain ⟨a, x0, x1, x2, x3, x4⟩ := h; exact k a x0 x1 x2 x3 x4
theorem ob_EAAAAA.{ua} {A_ : Sort ua} {p0 p1 p2 p3 p4 p5 : A_ → Prop} {Z : Prop} (h : (∃ a, (p0 a ∧ (p1 a ∧ (p2 a ∧ (p3 a ∧ (p4 a ∧ p5 a))))))) (k : ∀ a, p0 a → p1 a → p2 a → p3 a → p4 a → p5 a → Z) : Z := by obtain ⟨a, x0, x1, x2, x3, x4, x5⟩ := h; exact k a x0 x1 x2 x3 x4 x5
theorem ob_EAAE.{ua, ub} {A_ : Sort ua} {B_ : Sort ub} {p0 p1 : A_ → Prop} {p2 : A_ → B_ → Prop} {Z : Prop} (h : (∃ a, (p0 a ∧ (p1 a ∧ (∃ b, p2 a b))))) (k : ∀ a, p0 a → p1 a → ∀ b, p2 a b → Z) : Z := by obtain ⟨a, x0, x1, b, x2⟩ := h; exact k a x0 x1 b x2
theorem ob_EAAEr.{ua, ub} {A_ : Sort ua} {B_ : Sort ub} {p0 p1 : A_ → Prop} {p2 : A_ → B_ → Prop} {Z : Prop} (k : ∀ a, p0 a → p1 a → ∀ b, p2 a b → Z) (h : (∃ a, (p0 a ∧ (p1 a ∧ (∃ b, p2 a b))))) : Z := ob_EAAE h k
theorem ob_EE.{ua, ub} {A_ : Sort ua} {B_ : Sort ub} {p0 : A_ → B_ → Prop} {Z : Prop} (h : (∃ a, (∃ b, p0 a b))) (k : ∀ a, ∀ b, p0 a b → Z) : Z := by obtain ⟨a, b, x0⟩ := h; exact k a b x0
theorem ob_EEA.{ua, ub} {A_ : Sort ua} {B_ : Sort ub} {p0 p1 : A_ → B_ → Prop} {Z : Prop} (h : (∃ a, (∃ b, (p0 a b ∧ p1 a b)))) (k : ∀ a, ∀ b, p0 a b → p1 a b → Z) : Z := by obtain ⟨a, b, x0, x1⟩ := h; exact k a b x0 x1
theorem ob_EEAr.{ua, ub} {A_ : Sort ua} {B_ : Sort ub} {p0 p1 : A_ → B_ → Prop} {Z : Prop} (k : ∀ a, ∀ b, p0 a b → p1 a b → Z) (h : (∃ a, (∃ b, (p0 a b ∧ p1 a b)))) : Z := ob_EEA h k
theorem ob_EEAA.{ua, ub} {A_ : Sort ua} {B_ : Sort ub} {p0 p1 p2 : A_ → B_ → Prop} {Z : Prop} (h : (∃ a, (∃ b, (p0 a b ∧ (p1 a b ∧ p2 a b))))) (k : ∀ a, ∀ b, p0 a b → p1 a b → p2 a b → Z) : Z := by obtain ⟨a, b, x0, x1, x2⟩ := h; exact k a b x0 x1 x2
theorem ob_EEAAr.{ua, ub} {A_ : Sort ua} {B_ : Sort ub} {p0 p1 p2 : A_ → B_ → Prop} {Z : Prop} (k : ∀ a, ∀ b, p0 a b → p1 a b → p2 a b → Z) (h : (∃ a, (∃ b, (p0 a b ∧ (p1 a b ∧ p2 a b))))) : Z := ob_EEAA h k
theorem ob_EEAAA.{ua, ub} {A_ : Sort ua} {B_ : Sort ub} {p0 p1 p2 p3 : A_ → B_ → Prop} {Z : Prop} (h : (∃ a, (∃ b, (p0 a b ∧ (p1 a b ∧ (p2 a b ∧ p3 a b)))))) (k : ∀ a, ∀ b, p0 a b → p1 a b → p2 a b → p3 a b → Z) : Z := by obtain ⟨a, b, x0, x1, x2, x3⟩ := h; exact k a b x0 x1 x2 x3
theorem ob_EEAAAr.{ua, ub} {A_ : Sort ua} {B_ : Sort ub} {p0 p1 p2 p3 : A_ → B_ → Prop} {Z : Prop} (k : ∀ a, ∀ b, p0 a b → p1 a b → p2 a b → p3 a b → Z) (h : (∃ a, (∃ b, (p0 a b ∧ (p1 a b ∧ (p2 a b ∧ p3 a b)))))) : Z := ob_EEAAA h k
theorem ob_EEAAAA.{ua, ub} {A_ : Sort ua} {B_ : Sort ub} {p0 p1 p2 p3 p4 : A_ → B_ → Prop} {Z : Prop} (h : (∃ a, (∃ b, (p0 a b ∧ (p1 a b ∧ (p2 a b ∧ (p3 a b ∧ p4 a b))))))) (k : ∀ a, ∀ b, p0 a b → p1 a b → p2 a b → p3 a b → p4 a b → Z) : Z := by obtain ⟨a, b, x0, x1, x2, x3, x4⟩ := h; exact k a b x0 x1 x2 x3 x4
theorem ob_EEAAAAA.{ua, ub} {A_ : Sort ua} {B_ : Sort ub} {p0 p1 p2 p3 p4 p5 : A_ → B_ → Prop} {Z : Prop} (h : (∃ a, (∃ b, (p0 a b ∧ (p1 a b ∧ (p2 a b ∧ (p3 a b ∧ (p4 a b ∧ p5 a b)))))))) (k : ∀ a, ∀ b, p0 a b → p1 a b → p2 a b → p3 a b → p4 a b → p5 a b → Z) : Z := by obtain ⟨a, b, x0, x1, x2, x3, x4, x5⟩ := h; exact k a b x0 x1 x2 x3 x4 x5
theorem ob_EEE.{ua, ub, uc} {A_ : Sort ua} {B_ : Sort ub} {C_ : Sort uc} {p0 : A_ → B_ → C_ → Prop} {Z : Prop} (h : (∃ a, (∃ b, (∃ c, p0 a b c)))) (k : ∀ a, ∀ b, ∀ c, p0 a b c → Z) : Z := by obtain ⟨a, b, c, x0⟩ := h; exact k a b c x0
theorem ob_EEEA.{ua, ub, uc} {A_ : Sort ua} {B_ : Sort ub} {C_ : Sort uc} {p0 p1 : A_ → B_ → C_ → Prop} {Z : Prop} (h : (∃ a, (∃ b, (∃ c, (p0 a b c ∧ p1 a b c))))) (k : ∀ a, ∀ b, ∀ c, p0 a b c → p1 a b c → Z) : Z := by obtain ⟨a, b, c, x0, x1⟩ := h; exact k a b c x0 x1
theorem ob_EEEAr.{ua, ub, uc} {A_ : Sort ua} {B_ : Sort ub} {C_ : Sort uc} {p0 p1 : A_ → B_ → C_ → Prop} {Z : Prop} (k : ∀ a, ∀ b, ∀ c, p0 a b c → p1 a b c → Z) (h : (∃ a, (∃ b, (∃ c, (p0 a b c ∧ p1 a b c))))) : Z := ob_EEEA h k
theorem ob_EEEAA.{ua, ub, uc} {A_ : Sort ua} {B_ : Sort ub} {C_ : Sort uc} {p0 p1 p2 : A_ → B_ → C_ → Prop} {Z : Prop} (h : (∃ a, (∃ b, (∃ c, (p0 a b c ∧ (p1 a b c ∧ p2 a b c)))))) (k : ∀ a, ∀ b, ∀ c, p0 a b c → p1 a b c → p2 a b c → Z) : Z := by obtain ⟨a, b, c, x0, x1, x2⟩ := h; exact k a b c x0 x1 x2
theorem ob_EEEAAA.{ua, ub, uc} {A_ : Sort ua} {B_ : Sort ub} {C_ : Sort uc} {p0 p1 p2 p3 : A_ → B_ → C_ → Prop} {Z : Prop} (h : (∃ a, (∃ b, (∃ c, (p0 a b c ∧ (p1 a b c ∧ (p2 a b c ∧ p3 a b c))))))) (k : ∀ a, ∀ b, ∀ c, p0 a b c → p1 a b c → p2 a b c → p3 a b c → Z) : Z := by obtain ⟨a, b, c, x0, x1, x2, x3⟩ := h; exact k a b c x0 x1 x2 x3
theorem ob_EEEAAAr.{ua, ub, uc} {A_ : Sort ua} {B_ : Sort ub} {C_ : Sort uc} {p0 p1 p2 p3 : A_ → B_ → C_ → Prop} {Z : Prop} (k : ∀ a, ∀ b, ∀ c, p0 a b c → p1 a b c → p2 a b c → p3 a b c → Z) (h : (∃ a, (∃ b, (∃ c, (p0 a b c ∧ (p1 a b c ∧ (p2 a b c ∧ p3 a b c))))))) : Z := ob_EEEAAA h k
theorem ob_EEEAAAAA.{ua, ub, uc} {A_ : Sort ua} {B_ : Sort ub} {C_ : Sort uc} {p0 p1 p2 p3 p4 p5 : A_ → B_ → C_ → Prop} {Z : Prop} (h : (∃ a, (∃ b, (∃ c, (p0 a b c ∧ (p1 a b c ∧ (p2 a b c ∧ (p3 a b c ∧ (p4 a b c ∧ p5 a b c))))))))) (k : ∀ a, ∀ b, ∀ c, p0 a b c → p1 a b c → p2 a b c → p3 a b c → p4 a b c → p5 a b c → Z) : Z := by obtain ⟨a, b, c, x0, x1, x2, x3, x4, x5⟩ := h; exact k a b c x0 x1 x2 x3 x4 x5
theorem ob_EEEAAAAAr.{ua, ub, uc} {A_ : Sort ua} {B_ : Sort ub} {C_ : Sort uc} {p0 p1 p2 p3 p4 p5 : A_ → B_ → C_ → Prop} {Z : Prop} (k : ∀ a, ∀ b, ∀ c, p0 a b c → p1 a b c → p2 a b c → p3 a b c → p4 a b c → p5 a b c → Z) (h : (∃ a, (∃ b, (∃ c, (p0 a b c ∧ (p1 a b c ∧ (p2 a b c ∧ (p3 a b c ∧ (p4 a b c ∧ p5 a b c))))))))) : Z := ob_EEEAAAAA h k
theorem ob_EEEE.{ua, ub, uc, ud} {A_ : Sort ua} {B_ : Sort ub} {C_ : Sort uc} {D_ : Sort ud} {p0 : A_ → B_ → C_ → D_ → Prop} {Z : Prop} (h : (∃ a, (∃ b, (∃ c, (∃ d, p0 a b c d))))) (k : ∀ a, ∀ b, ∀ c, ∀ d, p0 a b c d → Z) : Z := by obtain ⟨a, b, c, d, x0⟩ := h; exact k a b c d x0
theorem ob_EEEEA.{ua, ub, uc, ud} {A_ : Sort ua} {B_ : Sort ub} {C_ : Sort uc} {D_ : Sort ud} {p0 p1 : A_ → B_ → C_ → D_ → Prop} {Z : Prop} (h : (∃ a, (∃ b, (∃ c, (∃ d, (p0 a b c d ∧ p1 a b c d)))))) (k : ∀ a, ∀ b, ∀ c, ∀ d, p0 a b c d → p1 a b c d → Z) : Z := by obtain ⟨a, b, c, d, x0, x1⟩ := h; exact k a b c d x0 x1
theorem ob_EEEEAr.{ua, ub, uc, ud} {A_ : Sort ua} {B_ : Sort ub} {C_ : Sort uc} {D_ : Sort ud} {p0 p1 : A_ → B_ → C_ → D_ → Prop} {Z : Prop} (k : ∀ a, ∀ b, ∀ c, ∀ d, p0 a b c d → p1 a b c d → Z) (h : (∃ a, (∃ b, (∃ c, (∃ d, (p0 a b c d ∧ p1 a b c d)))))) : Z := ob_EEEEA h k
theorem ob_EEEEAA.{ua, ub, uc, ud} {A_ : Sort ua} {B_ : Sort ub} {C_ : Sort uc} {D_ : Sort ud} {p0 p1 p2 : A_ → B_ → C_ → D_ → Prop} {Z : Prop} (h : (∃ a, (∃ b, (∃ c, (∃ d, (p0 a b c d ∧ (p1 a b c d ∧ p2 a b c d))))))) (k : ∀ a, ∀ b, ∀ c, ∀ d, p0 a b c d → p1 a b c d → p2 a b c d → Z) : Z := by obtain ⟨a, b, c, d, x0, x1, x2⟩ := h; exact k a b c d x0 x1 x2
theorem ob_EEEEAAA.{ua, ub, uc, ud} {A_ : Sort ua} {B_ : Sort ub} {C_ : Sort uc} {D_ : Sort ud} {p0 p1 p2 p3 : A_ → B_ → C_ → D_ → Prop} {Z : Prop} (h : (∃ a, (∃ b, (∃ c, (∃ d, (p0 a b c d ∧ (p1 a b c d ∧ (p2 a b c d ∧ p3 a b c d)))))))) (k : ∀ a, ∀ b, ∀ c, ∀ d, p0 a b c d → p1 a b c d → p2 a b c d → p3 a b c d → Z) : Z := by obtain ⟨a, b, c, d, x0, x1, x2, x3⟩ := h; exact k a b c d x0 x1 x2 x3
theorem ob_EEEEAAAr.{ua, ub, uc, ud} {A_ : Sort ua} {B_ : Sort ub} {C_ : Sort uc} {D_ : Sort ud} {p0 p1 p2 p3 : A_ → B_ → C_ → D_ → Prop} {Z : Prop} (k : ∀ a, ∀ b, ∀ c, ∀ d, p0 a b c d → p1 a b c d → p2 a b c d → p3 a b c d → Z) (h : (∃ a, (∃ b, (∃ c, (∃ d, (p0 a b c d ∧ (p1 a b c d ∧ (p2 a b c d ∧ p3 a b c d)))))))) : Z := ob_EEEEAAA h k
theorem ob_EEEEAAAA.{ua, ub, uc, ud} {A_ : Sort ua} {B_ : Sort ub} {C_ : Sort uc} {D_ : Sort ud} {p0 p1 p2 p3 p4 : A_ → B_ → C_ → D_ → Prop} {Z : Prop} (h : (∃ a, (∃ b, (∃ c, (∃ d, (p0 a b c d ∧ (p1 a b c d ∧ (p2 a b c d ∧ (p3 a b c d ∧ p4 a b c d))))))))) (k : ∀ a, ∀ b, ∀ c, ∀ d, p0 a b c d → p1 a b c d → p2 a b c d → p3 a b c d → p4 a b c d → Z) : Z := by obtain ⟨a, b, c, d, x0, x1, x2, x3, x4⟩ := h; exact k a b c d x0 x1 x2 x3 x4
theorem ob_EEEEAAAAr.{ua, ub, uc, ud} {A_ : Sort ua} {B_ : Sort ub} {C_ : Sort uc} {D_ : Sort ud} {p0 p1 p2 p3 p4 : A_ → B_ → C_ → D_ → Prop} {Z : Prop} (k : ∀ a, ∀ b, ∀ c, ∀ d, p0 a b c d → p1 a b c d → p2 a b c d → p3 a b c d → p4 a b c d → Z) (h : (∃ a, (∃ b, (∃ c, (∃ d, (p0 a b c d ∧ (p1 a b c d ∧ (p2 a b c d ∧ (p3 a b c d ∧ p4 a b c d))))))))) : Z := ob_EEEEAAAA h k
theorem ob_EEEEAAAAA.{ua, ub, uc, ud} {A_ : Sort ua} {B_ : Sort ub} {C_ : Sort uc} {D_ : Sort ud} {p0 p1 p2 p3 p4 p5 : A_ → B_ → C_ → D_ → Prop} {Z : Prop} (h : (∃ a, (∃ b, (∃ c, (∃ d, (p0 a b c d ∧ (p1 a b c d ∧ (p2 a b c d ∧ (p3 a b c d ∧ (p4 a b c d ∧ p5 a b c d)))))))))) (k : ∀ a, ∀ b, ∀ c, ∀ d, p0 a b c d → p1 a b c d → p2 a b c d → p3 a b c d → p4 a b c d → p5 a b c d → Z) : Z := by obtain ⟨a, b, c, d, x0, x1, x2, x3, x4, x5⟩ := h; exact k a b c d x0 x1 x2 x3 x4 x5
theorem ob_EEEEAAAAAAA.{ua, ub, uc, ud} {A_ : Sort ua} {B_ : Sort ub} {C_ : Sort uc} {D_ : Sort ud} {p0 p1 p2 p3 p4 p5 p6 p7 : A_ → B_ → C_ → D_ → Prop} {Z : Prop} (h : (∃ a, (∃ b, (∃ c, (∃ d, (p0 a b c d ∧ (p1 a b c d ∧ (p2 a b c d ∧ (p3 a b c d ∧ (p4 a b c d ∧ (p5 a b c d ∧ (p6 a b c d ∧ p7 a b c d)))))))))))) (k : ∀ a, ∀ b, ∀ c, ∀ d, p0 a b c d → p1 a b c d → p2 a b c d → p3 a b c d → p4 a b c d → p5 a b c d → p6 a b c d → p7 a b c d → Z) : Z := by obtain ⟨a, b, c, d, x0, x1, x2, x3, x4, x5, x6, x7⟩ := h; exact k a b c d x0 x1 x2 x3 x4 x5 x6 x7
theorem ob_EEEEAAAAAAAr.{ua, ub, uc, ud} {A_ : Sort ua} {B_ : Sort ub} {C_ : Sort uc} {D_ : Sort ud} {p0 p1 p2 p3 p4 p5 p6 p7 : A_ → B_ → C_ → D_ → Prop} {Z : Prop} (k : ∀ a, ∀ b, ∀ c, ∀ d, p0 a b c d → p1 a b c d → p2 a b c d → p3 a b c d → p4 a b c d → p5 a b c d → p6 a b c d → p7 a b c d → Z) (h : (∃ a, (∃ b, (∃ c, (∃ d, (p0 a b c d ∧ (p1 a b c d ∧ (p2 a b c d ∧ (p3 a b c d ∧ (p4 a b c d ∧ (p5 a b c d ∧ (p6 a b c d ∧ p7 a b c d)))))))))))) : Z := ob_EEEEAAAAAAA h k
theorem ob_EEEEE.{ua, ub, uc, ud, ue} {A_ : Sort ua} {B_ : Sort ub} {C_ : Sort uc} {D_ : Sort ud} {E_ : Sort ue} {p0 : A_ → B_ → C_ → D_ → E_ → Prop} {Z : Prop} (h : (∃ a, (∃ b, (∃ c, (∃ d, (∃ e, p0 a b c d e)))))) (k : ∀ a, ∀ b, ∀ c, ∀ d, ∀ e, p0 a b c d e → Z) : Z := by obtain ⟨a, b, c, d, e, x0⟩ := h; exact k a b c d e x0
theorem ob_EEEEEA.{ua, ub, uc, ud, ue} {A_ : Sort ua} {B_ : Sort ub} {C_ : Sort uc} {D_ : Sort ud} {E_ : Sort ue} {p0 p1 : A_ → B_ → C_ → D_ → E_ → Prop} {Z : Prop} (h : (∃ a, (∃ b, (∃ c, (∃ d, (∃ e, (p0 a b c d e ∧ p1 a b c d e))))))) (k : ∀ a, ∀ b, ∀ c, ∀ d, ∀ e, p0 a b c d e → p1 a b c d e → Z) : Z := by obtain ⟨a, b, c, d, e, x0, x1⟩ := h; exact k a b c d e x0 x1
theorem ob_EEEEEAAEEEAA.{ua, ub, uc, ud, ue, uf, ug, uh} {A_ : Sort ua} {B_ : Sort ub} {C_ : Sort uc} {D_ : Sort ud} {E_ : Sort ue} {F_ : Sort uf} {G_ : Sort ug} {H_ : Sort uh} {p0 p1 : A_ → B_ → C_ → D_ → E_ → Prop} {p2 p3 p4 : A_ → B_ → C_ → D_ → E_ → F_ → G_ → H_ → Prop} {Z : Prop} (h : (∃ a, (∃ b, (∃ c, (∃ d, (∃ e, (p0 a b c d e ∧ (p1 a b c d e ∧ (∃ f, (∃ g, (∃ h, (p2 a b c d e f g h ∧ (p3 a b c d e f g h ∧ p4 a b c d e f g h))))))))))))) (k : ∀ a, ∀ b, ∀ c, ∀ d, ∀ e, p0 a b c d e → p1 a b c d e → ∀ f, ∀ g, ∀ h, p2 a b c d e f g h → p3 a b c d e f g h → p4 a b c d e f g h → Z) : Z := by obtain ⟨a, b, c, d, e, x0, x1, f, g, h, x2, x3, x4⟩ := h; exact k a b c d e x0 x1 f g h x2 x3 x4
theorem ob_EEEEEAAEEEAAr.{ua, ub, uc, ud, ue, uf, ug, uh} {A_ : Sort ua} {B_ : Sort ub} {C_ : Sort uc} {D_ : Sort ud} {E_ : Sort ue} {F_ : Sort uf} {G_ : Sort ug} {H_ : Sort uh} {p0 p1 : A_ → B_ → C_ → D_ → E_ → Prop} {p2 p3 p4 : A_ → B_ → C_ → D_ → E_ → F_ → G_ → H_ → Prop} {Z : Prop} (k : ∀ a, ∀ b, ∀ c, ∀ d, ∀ e, p0 a b c d e → p1 a b c d e → ∀ f, ∀ g, ∀ h, p2 a b c d e f g h → p3 a b c d e f g h → p4 a b c d e f g h → Z) (h : (∃ a, (∃ b, (∃ c, (∃ d, (∃ e, (p0 a b c d e ∧ (p1 a b c d e ∧ (∃ f, (∃ g, (∃ h, (p2 a b c d e f g h ∧ (p3 a b c d e f g h ∧ p4 a b c d e f g h))))))))))))) : Z := ob_EEEEEAAEEEAA h k
theorem ob_EEEEEEA.{ua, ub, uc, ud, ue, uf} {A_ : Sort ua} {B_ : Sort ub} {C_ : Sort uc} {D_ : Sort ud} {E_ : Sort ue} {F_ : Sort uf} {p0 p1 : A_ → B_ → C_ → D_ → E_ → F_ → Prop} {Z : Prop} (h : (∃ a, (∃ b, (∃ c, (∃ d, (∃ e, (∃ f, (p0 a b c d e f ∧ p1 a b c d e f)))))))) (k : ∀ a, ∀ b, ∀ c, ∀ d, ∀ e, ∀ f, p0 a b c d e f → p1 a b c d e f → Z) : Z := by obtain ⟨a, b, c, d, e, f, x0, x1⟩ := h; exact k a b c d e f x0 x1
theorem ob_EEEEEEAAAAA.{ua, ub, uc, ud, ue, uf} {A_ : Sort ua} {B_ : Sort ub} {C_ : Sort uc} {D_ : Sort ud} {E_ : Sort ue} {F_ : Sort uf} {p0 p1 p2 p3 p4 p5 : A_ → B_ → C_ → D_ → E_ → F_ → Prop} {Z : Prop} (h : (∃ a, (∃ b, (∃ c, (∃ d, (∃ e, (∃ f, (p0 a b c d e f ∧ (p1 a b c d e f ∧ (p2 a b c d e f ∧ (p3 a b c d e f ∧ (p4 a b c d e f ∧ p5 a b c d e f)))))))))))) (k : ∀ a, ∀ b, ∀ c, ∀ d, ∀ e, ∀ f, p0 a b c d e f → p1 a b c d e f → p2 a b c d e f → p3 a b c d e f → p4 a b c d e f → p5 a b c d e f → Z) : Z := by obtain ⟨a, b, c, d, e, f, x0, x1, x2, x3, x4, x5⟩ := h; exact k a b c d e f x0 x1 x2 x3 x4 x5
theorem ob_EEEEEEEEA.{ua, ub, uc, ud, ue, uf, ug, uh} {A_ : Sort ua} {B_ : Sort ub} {C_ : Sort uc} {D_ : Sort ud} {E_ : Sort ue} {F_ : Sort uf} {G_ : Sort ug} {H_ : Sort uh} {p0 p1 : A_ → B_ → C_ → D_ → E_ → F_ → G_ → H_ → Prop} {Z : Prop} (h : (∃ a, (∃ b, (∃ c, (∃ d, (∃ e, (∃ f, (∃ g, (∃ h, (p0 a b c d e f g h ∧ p1 a b c d e f g h)))))))))) (k : ∀ a, ∀ b, ∀ c, ∀ d, ∀ e, ∀ f, ∀ g, ∀ h, p0 a b c d e f g h → p1 a b c d e f g h → Z) : Z := by obtain ⟨a, b, c, d, e, f, g, h, x0, x1⟩ := h; exact k a b c d e f g h x0 x1
theorem ob_EEEEEEEEAAAAAA.{ua, ub, uc, ud, ue, uf, ug, uh} {A_ : Sort ua} {B_ : Sort ub} {C_ : Sort uc} {D_ : Sort ud} {E_ : Sort ue} {F_ : Sort uf} {G_ : Sort ug} {H_ : Sort uh} {p0 p1 p2 p3 p4 p5 p6 : A_ → B_ → C_ → D_ → E_ → F_ → G_ → H_ → Prop} {Z : Prop} (h : (∃ a, (∃ b, (∃ c, (∃ d, (∃ e, (∃ f, (∃ g, (∃ h, (p0 a b c d e f g h ∧ (p1 a b c d e f g h ∧ (p2 a b c d e f g h ∧ (p3 a b c d e f g h ∧ (p4 a b c d e f g h ∧ (p5 a b c d e f g h ∧ p6 a b c d e f g h))))))))))))))) (k : ∀ a, ∀ b, ∀ c, ∀ d, ∀ e, ∀ f, ∀ g, ∀ h, p0 a b c d e f g h → p1 a b c d e f g h → p2 a b c d e f g h → p3 a b c d e f g h → p4 a b c d e f g h → p5 a b c d e f g h → p6 a b c d e f g h → Z) : Z := by obtain ⟨a, b, c, d, e, f, g, h, x0, x1, x2, x3, x4, x5, x6⟩ := h; exact k a b c d e f g h x0 x1 x2 x3 x4 x5 x6
theorem ob_EEEEEEEEEAAAA.{ua, ub, uc, ud, ue, uf, ug, uh, ui} {A_ : Sort ua} {B_ : Sort ub} {C_ : Sort uc} {D_ : Sort ud} {E_ : Sort ue} {F_ : Sort uf} {G_ : Sort ug} {H_ : Sort uh} {I_ : Sort ui} {p0 p1 p2 p3 p4 : A_ → B_ → C_ → D_ → E_ → F_ → G_ → H_ → I_ → Prop} {Z : Prop} (h : (∃ a, (∃ b, (∃ c, (∃ d, (∃ e, (∃ f, (∃ g, (∃ h, (∃ i, (p0 a b c d e f g h i ∧ (p1 a b c d e f g h i ∧ (p2 a b c d e f g h i ∧ (p3 a b c d e f g h i ∧ p4 a b c d e f g h i)))))))))))))) (k : ∀ a, ∀ b, ∀ c, ∀ d, ∀ e, ∀ f, ∀ g, ∀ h, ∀ i, p0 a b c d e f g h i → p1 a b c d e f g h i → p2 a b c d e f g h i → p3 a b c d e f g h i → p4 a b c d e f g h i → Z) : Z := by obtain ⟨a, b, c, d, e, f, g, h, i, x0, x1, x2, x3, x4⟩ := h; exact k a b c d e f g h i x0 x1 x2 x3 x4
theorem ob_EEEEEEEEEAAAAr.{ua, ub, uc, ud, ue, uf, ug, uh, ui} {A_ : Sort ua} {B_ : Sort ub} {C_ : Sort uc} {D_ : Sort ud} {E_ : Sort ue} {F_ : Sort uf} {G_ : Sort ug} {H_ : Sort uh} {I_ : Sort ui} {p0 p1 p2 p3 p4 : A_ → B_ → C_ → D_ → E_ → F_ → G_ → H_ → I_ → Prop} {Z : Prop} (k : ∀ a, ∀ b, ∀ c, ∀ d, ∀ e, ∀ f, ∀ g, ∀ h, ∀ i, p0 a b c d e f g h i → p1 a b c d e f g h i → p2 a b c d e f g h i → p3 a b c d e f g h i → p4 a b c d e f g h i → Z) (h : (∃ a, (∃ b, (∃ c, (∃ d, (∃ e, (∃ f, (∃ g, (∃ h, (∃ i, (p0 a b c d e f g h i ∧ (p1 a b c d e f g h i ∧ (p2 a b c d e f g h i ∧ (p3 a b c d e f g h i ∧ p4 a b c d e f g h i)))))))))))))) : Z := ob_EEEEEEEEEAAAA h k
end Mine
section
set_option genSizeOfSpec false
set_option genInjectivity false
set_option genSizeOf false
namespace Mine
open PySem PySem.W PySem.Calls PyProof.Rows PySem.SeqAt
inductive RV where
  | none
  | bool (b : Bool)
  | int (i : Int)
  | str (s : Str)
  | tup (vs : List RV)
  | rng (a b c : Int)
  | ref (i : Nat)
  | fn (x : String)
  | cls (x : String)
  | bi (x : String)
  | ty (x : String)
  | fdict (es : List (Str × RV))
  | sset (ss : List Str)
  | arg (vs : List RV)
inductive RO where
  | list (vs : List RV)
  | dict (es : List (RV × RV)) (ep : Nat)
  | set (es : List (Int × RV)) (ep : Nat) (t : SetTable)
  | inst (c : String) (fs : List (String × RV))
  | tab (b : Bool)
abbrev Loc := List (String × RV)
abbrev RH := List RO
def setL {α : Type} (x : String) (v : α) : List (String × α) → List (String × α)
  | [] => [(x, v)]
  | (y, u) :: r => if y = x then (x, v) :: r else (y, u) :: setL x v r
inductive RTg where
  | name (x : String)
  | names (xs : List String)
inductive RE where
  | const (v : RV)
  | loc (x : String)
  | glb (x : String)
  | boolop (and : Bool) (es : List RE)
  | bin (op : Operator) (a b : RE)
  | not (a : RE)
  | neg (a : RE)
  | cond (t a b : RE)
  | list (es : List RE)
  | tup (es : List RE)
  | dict0
  | comp1 (elt : RE) (x : String) (it : RE) (ifs : List RE)
  | comp2 (elt : RE) (x : String) (it : RE) (y : String) (it2 : RE) (ifs : List RE)
  | cmp (a : RE) (ops : List CmpOp) (es : List RE)
  | call (f : RE) (args : List RE)
  | meth (o : RE) (name : String) (args : List RE)
  | attr (o : RE) (name : String)
  | sub (o i : RE)
  | sortk (arg : RE) (x : String) (body : RE) (t : Nat)
  | rev (o : RE)
  | upto (o : RE) (k : Nat)
  | junk
inductive RT where
  | expr (e : RE)
  | ret (e : Option RE)
  | asg (t : RTg) (e : RE)
  | asgAttr (o : RE) (x : String) (e : RE)
  | asgSub (o i : RE) (e : RE)
  | ite (t : RE) (a b : List RT)
  | for_ (t : RTg) (it : RE) (body : List RT)
  | while_ (t : RE) (body : List RT)
  | try_ (body : List RT)
  | delSub (o i : RE)
  | raise_
  | brk
  | cont
  | pass
structure RFn where
  params : List String
  dflts : List RV
  body : List RT
  tab : Option Nat := none
structure RCls where
  ms : List (String × RFn)
  attrs : List String
structure RProg where
  funs : List (String × RFn)
  clss : List (String × RCls)
  vals : List (String × RV)
  tabs : List Nat := []
inductive RFl where
  | next | brk | cont
  | ret (v : RV)
end Mine
end
namespace Mine
open PySem PySem.W PySem.Calls PyProof.Rows PySem.SeqAt
noncomputable def asI : RV → Option Int
  | .int i => some i
  | _ => none
noncomputable def asS : RV → Option Str
  | .str s => some s
  | _ => none
noncomputable def asR : RV → Option Nat
  | .ref i => some i
  | _ => none
noncomputable def asT : RV → Option (List RV)
  | .tup vs => some vs
  | _ => none
noncomputable def asRg : RV → Option (Int × Int × Int)
  | .rng a b c => some (a, b, c)
  | _ => none
noncomputable def obAt (H : RH) (v : RV) : Option (Nat × RO) := (asR v).bind fun i => (H[i]?).bind fun o => some (i, o)
noncomputable def asL : RO → Option (List RV)
  | .list vs => some vs
  | _ => none
noncomputable def asD : RO → Option (List (RV × RV) × Nat)
  | .dict es n => some (es, n)
  | _ => none
noncomputable def asSt : RO → Option (List (Int × RV) × Nat × SetTable)
  | .set es n t => some (es, n, t)
  | _ => none
noncomputable def asO : RO → Option (String × List (String × RV))
  | .inst c fs => some (c, fs)
  | _ => none
noncomputable def atBy {α : Type} (f : RO → Option α) (H : RH) (v : RV) : Option (Nat × α) := (obAt H v).bind fun p => (f p.2).bind fun x => some (p.1, x)
noncomputable def lstAt (H : RH) (v : RV) : Option (Nat × List RV) := atBy asL H v
noncomputable def setAt (H : RH) (v : RV) : Option (Nat × List (Int × RV) × Nat × SetTable) := atBy asSt H v
noncomputable def insAt (H : RH) (v : RV) : Option (Nat × String × List (String × RV)) := atBy asO H v
mutual
noncomputable def toPD : RV → Option PyData
  | .none => some .none
  | .bool b => some (.bool b)
  | .int i => some (.int i)
  | .str s => some (.str s)
  | .tup vs => (toPDs vs).map .tuple
  | _ => none
noncomputable def toPDs : List RV → Option (List PyData)
  | [] => some []
  | v :: vs => match toPD v with
    | some d => match toPDs vs with
      | some ds => some (d :: ds)
      | none => none
    | none => none
end
noncomputable def toPDH (H : RH) (v : RV) : Option PyData := match lstAt H v with
  | some l => (toPDs l.2).map .list
  | none => toPD v
noncomputable def toPDHs (H : RH) : List RV → Option (List PyData)
  | [] => some []
  | v :: vs => match toPDH H v with
    | some d => match toPDHs H vs with
      | some ds => some (d :: ds)
      | none => none
    | none => none
noncomputable def toPDHH (H : RH) (v : RV) : Option PyData := match lstAt H v with
  | some l => (toPDHs H l.2).map .list
  | none => toPD v
noncomputable def isBi : RV → Bool
  | .bi _ => true
  | _ => false
noncomputable def isNoneR : RV → Bool
  | .none => true
  | _ => false
noncomputable def keyEq (a b : RV) : Bool := match toPD a, toPD b with
  | some x, some y => PyData.eqv x y
  | _, _ => false
noncomputable def dget (es : List (RV × RV)) (k : RV) : Option RV := (es.find? fun p => keyEq p.1 k).map (·.2)
noncomputable def sameIn (b : List (RV × RV)) (p : RV × RV) : Bool := match dget b p.1 with
  | some v => keyEq p.2 v
  | none => false
noncomputable def eqPD (x y : PyData) : Option Bool := if shaped x && shaped y then some (PyData.eqv x y) else none
noncomputable def eqOO (o o' : RO) : Option Bool := match asD o with
  | some d => none
  | none => (asL o).bind fun us => (asL o').bind fun vs => if us.length = vs.length then none else some false
noncomputable def eqO (H : RH) (a b : RV) : Option Bool := (obAt H a).bind fun p => (obAt H b).bind fun q => eqOO p.2 q.2
noncomputable def eqD (H : RH) (a b : RV) : Option Bool := (toPDHH H a).bind fun x => (toPDHH H b).bind fun y => eqPD x y
noncomputable def eqP (H : RH) (a b : RV) : Option Bool := match eqD H a b with
  | some c => some c
  | none => eqO H a b
noncomputable def neO (H : RH) (a b : RV) : Option Bool := (lstAt H a).bind fun us => (lstAt H b).bind fun vs => if us.2.length = vs.2.length then none else some true
noncomputable def neP (H : RH) (a b : RV) : Option Bool := match eqD H a b with
  | some c => some (!c)
  | none => neO H a b
noncomputable def intsP : List RV → Option (List Int)
  | [] => some []
  | v :: r => match asI v with
    | some i => (intsP r).map (i :: ·)
    | none => none
noncomputable def tupI (v : RV) : Option (List Int) := (asT v).bind intsP
noncomputable def hashL (l : List Int) : Int := reduceHash (Builtin.Tuple.tupleHashOf (l.map hashInt))
inductive Sought where
  | there
  | free (j : Nat)
noncomputable def storedH (es : List (Int × RV)) (i : Nat) : Int := ((es[i]?).map (·.1)).getD 0
noncomputable def seekAt (es : List (Int × RV)) (t : SetTable) (l : List Int) (j i : Nat) : Option Sought := (es[i]?).bind fun e => if tupI e.2 = some l ∧ t.sameMemory t.moves t.mask = some true ∧ t.slot j = .live i then some .there else none
noncomputable def seek (es : List (Int × RV)) (t : SetTable) (l : List Int) : Option Sought :=
  if t.gaveWay = false then (t.probe (storedH es) (hashL l) (t.probeStart (hashL l))).bind fun m => match m with
  | .empty j d => if d = none then some (.free j) else none
  | .candidate j i _ => seekAt es t l j i
  else none
noncomputable def anyP (d : PyData) (ds : List PyData) (whole : PyData) : Option Bool := if shaped d && shaped whole then some (ds.any fun y => PyData.eqv y d) else none
noncomputable def inSeq (a : RV) (vs : List RV) (mk : List PyData → PyData) : Option Bool := (toPD a).bind fun d => (toPDs vs).bind fun ds => anyP d ds (mk ds)
noncomputable def found : Sought → Bool
  | .there => true
  | .free _ => false
noncomputable def inSet (a : RV) (es : List (Int × RV)) (t : SetTable) : Option Bool := (tupI a).bind fun l => (seek es t l).map found
noncomputable def inO (a : RV) (o : RO) : Option Bool := match o with
  | .list vs => inSeq a vs .list
  | .dict _ _ => none
  | .set es _ t => inSet a es t
  | .inst _ _ => none
  | .tab _ => none
noncomputable def inP (H : RH) (a b : RV) : Option Bool := match b with
  | .tup vs => inSeq a vs .tuple
  | .rng x y c => if c = 1 then (asI a).map fun i => decide (x ≤ i ∧ i < y) else none
  | .fdict es => (asS a).map fun s => (es.lookup s).isSome
  | .str y => (asS a).map fun x => Txt.contains y x
  | .ref i => (H[i]?).bind (inO a)
  | _ => none
noncomputable def cmpI (f : Int → Int → Bool) (a b : RV) : Option Bool := (asI a).bind fun x => (asI b).bind fun y => some (f x y)
noncomputable def cmpP (H : RH) (op : CmpOp) (a b : RV) : Option Bool := match op with
  | .Eq => eqP H a b
  | .NotEq => neP H a b
  | .Lt => cmpI (fun x y => decide (x < y)) a b
  | .LtE => cmpI (fun x y => decide (x ≤ y)) a b
  | .Gt => cmpI (fun x y => decide (y < x)) a b
  | .GtE => cmpI (fun x y => decide (y ≤ x)) a b
  | .In => inP H a b
  | .NotIn => (inP H a b).map (!·)
  | .Is => if isNoneR b then some (isNoneR a) else none
  | .IsNot => if isNoneR b then some (!isNoneR a) else none
noncomputable def lenO : RO → Option Nat
  | .list vs => some vs.length
  | .dict es _ => some es.length
  | .set es _ _ => some es.length
  | .inst _ _ => none
  | .tab _ => none
noncomputable def lenR (H : RH) : RV → Option Nat
  | .arg vs => some vs.length
  | .str s => some s.length
  | .tup vs => some vs.length
  | .sset ss => some ss.length
  | .rng x y c => if c = 1 then some (y - x).toNat else none
  | .ref i => (H[i]?).bind lenO
  | _ => none
noncomputable def lineB (n : Nat) : Option Bool := if n ≤ sizeLine then some (n != 0) else none
noncomputable def truthO : RO → Option Bool
  | .list vs => lineB vs.length
  | .dict es _ => lineB es.length
  | _ => none
noncomputable def truthR (H : RH) : RV → Option Bool
  | .none => some false
  | .bool b => some b
  | .int i => some (i != 0)
  | .str s => lineB s.length
  | .tup vs => lineB vs.length
  | .ref i => (H[i]?).bind truthO
  | _ => none
noncomputable def smallI (x : Int) : Prop := x.natAbs < 2 ^ 64
noncomputable instance (x : Int) : Decidable (smallI x) := inferInstanceAs (Decidable (x.natAbs < 2 ^ 64))
noncomputable def rngL (a b c : Int) : List RV := if 0 < c then (List.range ((b - a + c - 1) / c).toNat).map fun (k : Nat) => RV.int (a + c * (k : Int)) else []
noncomputable def asgT : RTg → RV → Loc → Option Loc
  | .name x, v, loc => some (setL x v loc)
  | .names xs, .tup vs, loc => if xs.length = vs.length then some ((xs.zip vs).foldl (fun l p => setL p.1 p.2 l) loc) else none
  | _, _, _ => none
noncomputable def idxR (k : Int) (n : Nat) : Option Nat := if 0 ≤ k ∧ k < (n : Int) ∧ k < 2 ^ 62 then some k.toNat else none
noncomputable def nthR (vs : List RV) (i : RV) : Option RV := (asI i).bind fun k => (idxR k vs.length).bind (vs[·]?)
noncomputable def subO (o : RO) (i : RV) : Option RV := match o with
  | .list vs => nthR vs i
  | .dict _ _ => none
  | _ => none
noncomputable def subR (H : RH) (v i : RV) : Option RV := match v with
  | .arg vs => nthR vs i
  | .tup vs => nthR vs i
  | .str s => (asI i).bind fun k => if (idxR k s.length).isSome then some (.str (Txt.item s k)) else none
  | .fdict es => (asS i).bind fun s => es.lookup s
  | .ref j => (H[j]?).bind fun o => subO o i
  | _ => none
noncomputable def biNames : List String := ["len", "abs", "sorted", "sum", "max", "min", "isinstance"]
noncomputable def tyNames : List String := ["range", "set", "tuple", "str", "list", "dict", "int"]
noncomputable def strsP : List RV → Option (List Str)
  | [] => some []
  | v :: r => match asS v with
    | some s => (strsP r).map (s :: ·)
    | none => none
noncomputable def leS (a b : Str) : Bool := !(decide (b.cps.toList < a.cps.toList))
noncomputable def insS (x : Str) : List Str → List Str
  | [] => [x]
  | y :: r => if leS x y then x :: y :: r else y :: insS x r
noncomputable def sortS : List Str → List Str
  | [] => []
  | x :: r => insS x (sortS r)
noncomputable def maxL : List Int → Option Int
  | [] => none
  | x :: r => some (r.foldl (fun a b => if a < b then b else a) x)
noncomputable def minL : List Int → Option Int
  | [] => none
  | x :: r => some (r.foldl (fun a b => if b < a then b else a) x)
noncomputable def nubA (acc : List Str) : List Str → List Str
  | [] => acc
  | x :: r => nubA (if acc.contains x then acc else acc ++ [x]) r
noncomputable def nubS (l : List Str) : List Str := nubA [] l
noncomputable def fitI (x : Int) : Prop := -(2 ^ 63) ≤ x ∧ x < 2 ^ 63
noncomputable instance (x : Int) : Decidable (fitI x) := inferInstanceAs (Decidable (_ ∧ _))
noncomputable def delL (x : String) (l : Loc) : Loc := l.filter fun p => p.1 != x
noncomputable def attrOk (G : RProg) (c x : String) : Bool := match G.clss.lookup c with
  | some k => k.attrs.contains x
  | none => false
noncomputable def fieldR (G : RProg) (H : RH) (o : RV) (x : String) : Option RV := (insAt H o).bind fun p => if attrOk G p.2.1 x then (p.2.2.lookup x).bind fun v => if isBi v then none else some v else none
noncomputable def setField (G : RProg) (H : RH) (o : RV) (x : String) (v : RV) : Option RH := (insAt H o).bind fun p => if attrOk G p.2.1 x && decide (p.2.2.length < 900) then some (H.set p.1 (.inst p.2.1 (setL x v p.2.2))) else none
noncomputable def putD (k v : RV) : List (RV × RV) → List (RV × RV)
  | [] => [(k, v)]
  | (k', v') :: r => if keyEq k' k then (k', v) :: r else (k', v') :: putD k v r
noncomputable def callable (G : RProg) : RV → Bool
  | .fn x => (G.funs.lookup x).isSome
  | .cls c => ((G.clss.lookup c).bind (·.ms.lookup "__init__")).isSome
  | .bi _ => true
  | .ty _ => true
  | _ => false
inductive MK where
  | own (d : RFn)
  | blt (id : String)
noncomputable def methO (G : RProg) (m : String) : RO → Option MK
  | .inst c fs => if (fs.lookup m).isSome then none else ((G.clss.lookup c).bind (·.ms.lookup m)).map .own
  | .list _ => if m = "append" then some (.blt "list.append") else none
  | .dict _ _ => if m = "get" then some (.blt "dict.get") else none
  | .set _ _ _ => if m = "add" then some (.blt "set.add") else if m = "update" then some (.blt "set.update") else none
  | .tab _ => none
noncomputable def methK (G : RProg) (H : RH) (o : RV) (m : String) : Option MK := match o with
  | .ref i => (H[i]?).bind (methO G m)
  | .str _ => if m = "split" then some (.blt "str.split") else none
  | _ => none
noncomputable def globR2 (G : RProg) (x : String) : Option RV := match G.vals.lookup x with
    | some v => some v
    | none =>
      if biNames.contains x then some (.bi x)
      else if tyNames.contains x then some (.ty x)
      else none
noncomputable def globR (G : RProg) (x : String) : Option RV :=
  if (G.funs.lookup x).isSome then some (.fn x)
  else if (G.clss.lookup x).isSome then some (.cls x)
  else globR2 G x
abbrev SetP := List (Int × RV) × Nat × SetTable
noncomputable def putS (s : SetP) (h : Int) (x : RV) : Sought → Option SetP
  | .there => some s
  | .free j => if (s.2.2.put j).1.tooFull = false ∧ (s.2.2.put j).1.fits (s.1.length + 1) = true ∧ s.2.2.plain = true ∧ s.1.length < 4000 then some (s.1.take (s.2.2.put j).2 ++ (h, x) :: s.1.drop (s.2.2.put j).2, s.2.1 + 1, (s.2.2.put j).1) else none
noncomputable def addS (s : SetP) (x : RV) : Option SetP := (tupI x).bind fun l => (seek s.1 s.2.2 l).bind (putS s (hashL l) x)
noncomputable def addAll (s : SetP) : List RV → Option SetP
  | [] => some s
  | x :: r => (addS s x).bind fun s' => addAll s' r
noncomputable def setOf (s : SetP) : RO := .set s.1 s.2.1 s.2.2
inductive Src where
  | items (vs : List RV)
  | list (i : Nat)
  | kept (i : Nat) (ep : Nat) (vs : List RV)
noncomputable def epOf : RO → Option Nat
  | .dict _ ep => some ep
  | .set _ ep _ => some ep
  | _ => none
noncomputable def peek (s : Src) (H : RH) (k : Nat) : Option (Option RV) := match s with
  | .items vs => some vs[k]?
  | .list i => ((H[i]?).bind asL).bind fun vs => some vs[k]?
  | .kept i ep vs => if (H[i]?).bind epOf = some ep then some vs[k]? else none
noncomputable def bindR (ps : List String) (ds : List RV) (args : List RV) : Option Loc :=
  if args.length ≤ ps.length ∧ ps.length ≤ args.length + ds.length then some (ps.zip (args ++ ds.drop (ds.length - (ps.length - args.length)))) else none
noncomputable def retV : RFl → RV
  | .ret v => v
  | _ => .none
noncomputable def keysP : List RV → Option (List (List Int))
  | [] => some []
  | v :: r => match (asT v).bind intsP with
    | some l => (keysP r).map (l :: ·)
    | none => none
noncomputable def ltK : List Int → List Int → Bool
  | [], [] => false
  | [], _ :: _ => true
  | _ :: _, [] => false
  | x :: xs, y :: ys => if x = y then ltK xs ys else decide (x < y)
noncomputable def kasEv {α : Type} (n : Nat) (lt : Nat → Nat → Bool) : KasT α → Option α
  | .ret a => some a
  | .ask i j k => if i < n ∧ j < n then kasEv n lt (k (lt i j)) else none
noncomputable def sortP (kk : List (List Int)) (l : List RV) : Option (List RV) := if l.length < 2 then some l else (kasEv l.length (fun i j => ltK (kk.getD i []) (kk.getD j [])) (kas_sort l.length)).map fun p => p.toList.map fun i => l.getD i .none
noncomputable def isSortedB (G : RProg) : Bool := match globR G "sorted" with
  | some (.bi x) => x == "sorted"
  | _ => false
noncomputable def asTab : RO → Option Bool
  | .tab b => some b
  | _ => none
noncomputable def tabAt (H : RH) (t : Nat) : Option Unit := ((H[t]?).bind asTab).bind fun b => if b then none else some ()
noncomputable def sortSrc (H : RH) (v : RV) : Option (List RV) := match lstAt H v with
  | some l => some l.2
  | none => (asRg v).bind fun r => if r.2.2 = 1 ∧ Builtin.Range.small r.1 r.2.1 r.2.2 = true then some (rngL r.1 r.2.1 r.2.2) else none
noncomputable def fitN (n : Nat) : Prop := n < 2 ^ 63
noncomputable instance (n : Nat) : Decidable (fitN n) := inferInstanceAs (Decidable (n < 2 ^ 63))
noncomputable def strsO : RO → Option (List Str)
  | .list vs => strsP vs
  | _ => none
noncomputable def strsIn (H : RH) (v : RV) : Option (List Str) := (obAt H v).bind fun p => strsO p.2
noncomputable def intsIn (H : RH) (v : RV) : Option (List Int) := (lstAt H v).bind fun l => intsP l.2
abbrev PV := RV → RH → Prop
abbrev PB := Bool → RH → Prop
abbrev PF := RFl → Loc → RH → Prop
abbrev PL := List RV → RH → Prop
abbrev UTy := RFn → List RV → RH → PV → Prop
noncomputable def optwp {α : Type} (o : Option α) (k : α → Prop) : Prop := match o with
  | some x => k x
  | none => False
noncomputable def int2wp (a b : RV) (k : Int → Int → Prop) : Prop := optwp (asI a) fun x => optwp (asI b) fun y => k x y
noncomputable def addSwp (a b : RV) (H : RH) (Q : PV) : Prop := match asS a with
  | some x => optwp (asS b) fun y => ((x ++ y).length ≤ sizeLine) ∧ Q (.str (x ++ y)) H
  | none => optwp (lstAt H a) fun p => optwp (lstAt H b) fun q => ((p.2 ++ q.2).length ≤ sizeLine) ∧ Q (.ref H.length) (H ++ [.list (p.2 ++ q.2)])
noncomputable def binwp (op : Operator) (a b : RV) (H : RH) (Q : PV) : Prop := match op with
  | .Add => match asI a with
    | some _ => int2wp a b fun x y => Q (.int (x + y)) H
    | none => addSwp a b H Q
  | .Sub => int2wp a b fun x y => Q (.int (x - y)) H
  | .Mult => int2wp a b fun x y => (smallI x) ∧ (smallI y) ∧ Q (.int (x * y)) H
  | .FloorDiv => int2wp a b fun x y => (y ≠ 0) ∧ Q (.int (Int.fdiv x y)) H
  | .Mod => int2wp a b fun x y => (y ≠ 0) ∧ Q (.int (Int.fmod x y)) H
  | _ => False
noncomputable def srcOwp (i : Nat) (o : RO) (Q : Src → Prop) : Prop := match o with
  | .list _ => Q (.list i)
  | .dict _ _ => False
  | .set es ep t => (t.plain = true ∧ SetTable.rising t.place = true) ∧ ∀ l, l.Perm (es.map (·.2)) → Q (.kept i ep l)
  | .inst _ _ => False
  | .tab _ => False
noncomputable def srcwp (H : RH) (v : RV) (Q : Src → Prop) : Prop := match v with
  | .tup vs => Q (.items vs)
  | .rng x y c => (c = 1 ∧ Builtin.Range.small x y c = true) ∧ Q (.items (rngL x y c))
  | .ref i => optwp (H[i]?) fun o => srcOwp i o Q
  | _ => False
noncomputable def onewp (args : List RV) (k : RV → Prop) : Prop := match args with
  | [v] => k v
  | _ => False
noncomputable def mkLwp (H : RH) (Q : PV) (l : List RV) : Prop := Q (.ref H.length) (H ++ [.list l])
noncomputable def biwp (x : String) (args : List RV) (H : RH) (Q : PV) : Prop :=
  if x = "len" then onewp args fun v => optwp (lenR H v) fun n => (fitN n) ∧ Q (.int n) H
  else if x = "sorted" then onewp args fun v => optwp (strsIn H v) fun l => (l.length < 64) ∧ mkLwp H Q ((sortS l).map .str)
  else if x = "sum" then onewp args fun v => optwp (intsIn H v) fun l => Q (.int l.sum) H
  else if x = "min" then match intsP args with
      | some [a, b] => Q (.int (if b < a then b else a)) H
      | _ => onewp args fun v => optwp ((intsIn H v).bind minL) fun m => Q (.int m) H
  else False
noncomputable def tywp (x : String) (args : List RV) (H : RH) (Q : PV) : Prop :=
  if x = "range" then match intsP args with
    | some [n] => (fitI n) ∧ Q (.rng 0 n 1) H
    | some [a, b] => (fitI a) ∧ (fitI b) ∧ Q (.rng a b 1) H
    | _ => False
  else if x = "set" then match args with
    | [] => Q (.ref H.length) (H ++ [.set [] 0 (SetTable.fresh 0 0 true)])
    | _ => onewp args fun v => optwp ((lstAt H v).bind fun p => strsP p.2) fun l => (l.length < 4000) ∧ Q (.sset (nubS l)) H
  else if x = "tuple" then onewp args fun v => match asT v with
      | some vs => Q (.tup vs) H
      | none => optwp (lstAt H v) fun p => (p.2.length < 4000) ∧ Q (.tup p.2) H
  else False
noncomputable def mbwp (id : String) (o : RV) (args : List RV) (H : RH) (Q : PV) : Prop :=
  if id = "list.append" then onewp args fun v => optwp (lstAt H o) fun p => (p.2.length < 4000) ∧ Q .none (H.set p.1 (.list (p.2 ++ [v])))
  else if id = "str.split" then match args with
    | [] => optwp (asS o) fun x => (x.length < 4000) ∧ mkLwp H Q ((Txt.words x).map .str)
    | _ => False
  else if id = "set.add" then onewp args fun k => optwp (setAt H o) fun p => optwp (addS p.2 k) fun s => Q .none (H.set p.1 (setOf s))
  else False
section
variable (G : RProg) (U : UTy)
noncomputable def callwp (f : RV) (args : List RV) (H : RH) (Q : PV) : Prop := match f with
  | .fn x => optwp (G.funs.lookup x) fun d => U d args H Q
  | .cls c => optwp ((G.clss.lookup c).bind (·.ms.lookup "__init__")) fun d => U d (.ref H.length :: args) (H ++ [.inst c []]) fun r H' => (r = .none) ∧ Q (.ref H.length) H'
  | .bi x => biwp x args H Q
  | .ty x => tywp x args H Q
  | _ => False
noncomputable def doMwp (k : MK) (o : RV) (vs : List RV) (H : RH) (Q : PV) : Prop := match k with
  | .own d => U d (o :: vs) H Q
  | .blt id => mbwp id o vs H Q
noncomputable def wpTurns (turn : RV → List RV → RH → (PL) → Prop) (s : Src) : Nat → Nat → List RV → RH → (PL) → Prop
  | 0, _, _, _, _ => False
  | n + 1, k, acc, H, Q => optwp (peek s H k) fun o => match o with
    | none => Q acc H
    | some v => turn v acc H fun acc' H' => (acc'.length < 4000) ∧ wpTurns turn s n (k + 1) acc' H' Q
noncomputable def wpKeys (key : RV → RH → (PV) → Prop) : List RV → List RV → RH → (PL) → Prop
  | [], acc, H, Q => Q acc H
  | v :: vs, acc, H, Q => key v H fun r H' => wpKeys key vs (acc ++ [r]) H' Q
mutual
noncomputable def wpE : RE → Loc → RH → (PV) → Prop
  | .const v, _, H, Q => Q v H
  | .loc x, loc, H, Q => optwp (loc.lookup x) fun v => Q v H
  | .glb x, _, H, Q => optwp (globR G x) fun v => Q v H
  | .boolop b es, loc, H, Q => wpBool b es loc H Q
  | .bin op a b, loc, H, Q => wpE a loc H fun x H₁ => wpE b loc H₁ fun y H₂ => binwp op x y H₂ Q
  | .not a, loc, H, Q => wpE a loc H fun v H₁ => optwp (truthR H₁ v) fun b => Q (.bool (!b)) H₁
  | .neg a, loc, H, Q => wpE a loc H fun v H₁ => optwp (asI v) fun i => Q (.int (-i)) H₁
  | .cond t a b, loc, H, Q => wpT t (fun l H' Q' => wpE t l H' Q') loc H fun c H₁ => if c then wpE a loc H₁ Q else wpE b loc H₁ Q
  | .list es, loc, H, Q => wpEs es loc H fun vs H₁ => (vs.length ≤ sizeLine) ∧ Q (.ref H₁.length) (H₁ ++ [.list vs])
  | .tup es, loc, H, Q => wpEs es loc H fun vs H₁ => (vs.length ≤ sizeLine) ∧ Q (.tup vs) H₁
  | .dict0, _, _, _ => False
  | .comp1 elt x it ifs, loc, H, Q => wpE it loc H fun s H₁ => srcwp H₁ s fun sc =>
      ∃ n, wpTurns (fun v acc H' k => wpIfs ifs (setL x v loc) H' fun ok H'' => if ok then wpE elt (setL x v loc) H'' fun r H₃ => k (acc ++ [r]) H₃ else k acc H'') sc n 0 [] H₁ fun vs H₂ => Q (.ref H₂.length) (H₂ ++ [.list vs])
  | .comp2 _ _ _ _ _ _, _, _, _ => False
  | .cmp a ops es, loc, H, Q => wpE a loc H fun v H₁ => wpCmp v ops es loc H₁ Q
  | .call f args, loc, H, Q => wpE f loc H fun fv H₁ => (callable G fv = true) ∧ wpEs args loc H₁ fun vs H₂ => callwp G U fv vs H₂ Q
  | .meth o m args, loc, H, Q => wpE o loc H fun ov H₁ => optwp (methK G H₁ ov m) fun k => wpEs args loc H₁ fun vs H₂ => doMwp U k ov vs H₂ Q
  | .attr o x, loc, H, Q => wpE o loc H fun ov H₁ => optwp (fieldR G H₁ ov x) fun v => Q v H₁
  | .sub o i, loc, H, Q => wpE o loc H fun ov H₁ => wpE i loc H₁ fun iv H₂ => optwp (subR H₂ ov iv) fun v => Q v H₂
  | .sortk arg x body t, loc, H, Q => (isSortedB G = true) ∧ wpE arg loc H fun s H₁ => optwp (sortSrc H₁ s) fun l => optwp (tabAt H₁ t) fun z_ => (l.length < 64) ∧ wpKeys (fun v H' k => wpE body (setL x v loc) H' k) l [] (H₁.set t (.tab true)) fun ks H₂ => optwp (keysP ks) fun kk => (kk.all (fun k => !k.isEmpty) = true) ∧ optwp (sortP kk l) fun l' => Q (.ref H₂.length) (H₂ ++ [.list l'])
  | .rev _, _, _, _ => False
  | .junk, _, _, _ => False
  | .upto _ _, _, _, _ => False
noncomputable def wpT : RE → (Loc → RH → (PV) → Prop) → Loc → RH → (PB) → Prop
  | .not a, _, loc, H, Q => wpT a (fun l H' Q' => wpE a l H' Q') loc H fun b H₁ => Q (!b) H₁
  | .boolop b es, _, loc, H, Q => wpTs b es loc H Q
  | .cond t a b, _, loc, H, Q => wpT t (fun l H' Q' => wpE t l H' Q') loc H fun c H₁ => if c then wpT a (fun l H' Q' => wpE a l H' Q') loc H₁ Q else wpT b (fun l H' Q' => wpE b l H' Q') loc H₁ Q
  | .cmp a ops es, _, loc, H, Q => wpE a loc H fun v H₁ => wpCmpT v ops es loc H₁ Q
  | _, whole, loc, H, Q => whole loc H fun v H₁ => optwp (truthR H₁ v) fun b => Q b H₁
noncomputable def wpTs (and : Bool) : List RE → Loc → RH → (PB) → Prop
  | [], _, H, Q => Q and H
  | e :: es, loc, H, Q => wpT e (fun l H' Q' => wpE e l H' Q') loc H fun b H₁ => if b = and then wpTs and es loc H₁ Q else Q b H₁
noncomputable def wpIfs : List RE → Loc → RH → (PB) → Prop
  | [], _, H, Q => Q true H
  | e :: es, loc, H, Q => wpT e (fun l H' Q' => wpE e l H' Q') loc H fun b H₁ => if b then wpIfs es loc H₁ Q else Q false H₁
noncomputable def wpEs : List RE → Loc → RH → (PL) → Prop
  | [], _, H, Q => Q [] H
  | e :: es, loc, H, Q => wpE e loc H fun v H₁ => wpEs es loc H₁ fun vs H₂ => Q (v :: vs) H₂
noncomputable def wpBool (and : Bool) : List RE → Loc → RH → (PV) → Prop
  | [], _, _, _ => False
  | e :: es, loc, H, Q => wpE e loc H fun v H₁ => match es with
    | [] => Q v H₁
    | _ :: _ => optwp (truthR H₁ v) fun b => if b = and then wpBool and es loc H₁ Q else Q v H₁
noncomputable def wpCmp (v : RV) : List CmpOp → List RE → Loc → RH → (PV) → Prop
  | [op], [e], loc, H, Q => wpE e loc H fun u H₁ => optwp (cmpP H₁ op v u) fun b => Q (.bool b) H₁
  | op :: ops, e :: es, loc, H, Q => wpE e loc H fun u H₁ => optwp (cmpP H₁ op v u) fun b => if b then wpCmp u ops es loc H₁ Q else Q (.bool false) H₁
  | _, _, _, _, _ => False
noncomputable def wpCmpT (v : RV) : List CmpOp → List RE → Loc → RH → (PB) → Prop
  | [op], [e], loc, H, Q => wpE e loc H fun u H₁ => optwp (cmpP H₁ op v u) fun b => Q b H₁
  | op :: ops, e :: es, loc, H, Q => wpE e loc H fun u H₁ => optwp (cmpP H₁ op v u) fun b => if b then wpCmpT u ops es loc H₁ Q else Q false H₁
  | _, _, _, _, _ => False
end
end
noncomputable def turnwp (fl : RFl) (loc : Loc) (H : RH) (Q : PF) (again : Prop) : Prop := match fl with
  | .next => again
  | .cont => again
  | .brk => Q .next loc H
  | .ret r => Q (.ret r) loc H
noncomputable def wpFor (body : Loc → RH → (PF) → Prop) (t : RTg) (s : Src) : Nat → Nat → Loc → RH → (PF) → Prop
  | 0, _, _, _, _ => False
  | n + 1, k, loc, H, Q => optwp (peek s H k) fun o => match o with
    | none => Q .next loc H
    | some v => optwp (asgT t v loc) fun loc₁ => body loc₁ H fun fl loc₂ H₂ => turnwp fl loc₂ H₂ Q (wpFor body t s n (k + 1) loc₂ H₂ Q)
noncomputable def wpWhile (test : Loc → RH → (PB) → Prop) (body : Loc → RH → (PF) → Prop) : Nat → Loc → RH → (PF) → Prop
  | 0, _, _, _ => False
  | n + 1, loc, H, Q => test loc H fun b H₁ => if b then body loc H₁ fun fl loc₂ H₂ => turnwp fl loc₂ H₂ Q (wpWhile test body n loc₂ H₂ Q)
    else Q .next loc H₁
section
variable (G : RProg) (U : UTy)
mutual
noncomputable def wpS : RT → Loc → RH → (PF) → Prop
  | .expr e, loc, H, Q => wpE G U e loc H fun z_ H₁ => Q .next loc H₁
  | .ret (some e), loc, H, Q => wpE G U e loc H fun v H₁ => Q (.ret v) loc H₁
  | .ret none, loc, H, Q => Q (.ret .none) loc H
  | .asg t e, loc, H, Q => wpE G U e loc H fun v H₁ => optwp (asgT t v loc) fun loc₁ => Q .next loc₁ H₁
  | .asgAttr o x e, loc, H, Q => wpE G U e loc H fun v H₁ => wpE G U o loc H₁ fun ov H₂ => optwp (setField G H₂ ov x v) fun H₃ => Q .next loc H₃
  | .asgSub _ _ _, _, _, _ => False
  | .ite t a b, loc, H, Q => wpT G U t (fun l H' Q' => wpE G U t l H' Q') loc H fun c H₁ => if c then wpSs a loc H₁ Q else wpSs b loc H₁ Q
  | .for_ t it body, loc, H, Q => wpE G U it loc H fun s H₁ => srcwp H₁ s fun sc => ∃ n, wpFor (fun l' H' Q' => wpSs body l' H' Q') t sc n 0 loc H₁ Q
  | .while_ _ _, _, _, _ => False
  | .try_ _, _, _, _ => False
  | .delSub _ _, _, _, _ => False
  | .raise_, _, _, _ => False
  | .brk, loc, H, Q => Q .brk loc H
  | .cont, loc, H, Q => Q .cont loc H
  | .pass, loc, H, Q => Q .next loc H
noncomputable def wpSs : List RT → Loc → RH → (PF) → Prop
  | [], loc, H, Q => Q .next loc H
  | s :: r, loc, H, Q => wpS s loc H fun fl loc₁ H₁ => match fl with
    | .next => wpSs r loc₁ H₁ Q
    | fl => Q fl loc₁ H₁
end
end
noncomputable def callU (G : RProg) : Nat → UTy
  | 0, _, _, _, _ => False
  | n + 1, d, args, H, Q => optwp (bindR d.params d.dflts args) fun loc => wpSs G (callU G n) d.body loc H fun fl z_ H₁ => Q (retV fl) H₁
def cellFn : RFn := { params := ["script", "k"], dflts := [], body := [
  .ite (.cmp (.loc "k") [.Lt] [(.call (.glb "len") [(.loc "script")])]) [.ret (some (.sub (.loc "script") (.loc "k")))] [],
  .ret (some (.const (.int 0)))] }
theorem cell_ok {G : RProg} {n : Nat} {zs : List Int} {k : Int} {H : RH} {Q : PV} (e1 : globR G "len" = some (.bi "len")) (h0 : 0 ≤ k) (hk : k < 1000) (hz : zs.length < 1000) (hq : Q (.int (zs.getD k.toNat 0)) H) :
    callU G (n + 1) cellFn [.arg (zs.map .int), .int k] H Q := by
  have e1' : globR G "len" = some (.bi "len") := e1
  have fit : fitN (zs.map RV.int).length := by
    rw [List.length_map]
    show zs.length < 2 ^ 63
    omega
  show optwp (globR G "len") _
  rw [e1']
  refine ⟨rfl, ⟨fit, ?_⟩⟩
  show if (decide (k < ((zs.map RV.int).length : Int))) = true then _ else _
  by_cases h : k < ((zs.map RV.int).length : Int)
  · rw [if_pos (decide_eq_true h)]
    show optwp (nthR (zs.map RV.int) (.int k)) _
    have hk' : k.toNat < zs.length := by rw [List.length_map] at h; omega
    have e2 : nthR (zs.map RV.int) (.int k) = some (.int (zs.getD k.toNat 0)) := by
      show (idxR k (zs.map RV.int).length).bind ((zs.map RV.int)[·]?) = _
      unfold idxR
      rw [if_pos ⟨h0, h, by omega⟩, Option.bind_some, List.getElem?_map, List.getElem?_eq_getElem hk', List.getD_eq_getElem?_getD, List.getElem?_eq_getElem hk']
      rfl
    rw [e2]
    exact hq
  · rw [if_neg (by rw [decide_eq_false h]; exact Bool.false_ne_true)]
    show Q (.int 0) H
    have : zs.getD k.toNat 0 = 0 := by
      rw [List.length_map] at h
      rw [List.getD_eq_getElem?_getD, List.getElem?_eq_none (by omega)]; rfl
    rw [this] at hq
    exact hq
end Mine
namespace Mine
open PySem PySem.W PySem.Calls PyProof.Rows
abbrev Ns := List (Str × NameKind)
noncomputable def mtC (c : Const) (v : RV) : Bool := match v with
  | .none => match c with | .none => true | _ => false
  | .bool b => match c with | .bool b' => b' == b | _ => false
  | .int i => match c with | .int j => decide (j = i) | _ => false
  | .str s => match c with | .str u => u == s | _ => false
  | _ => false
noncomputable def isL (k : Option NameKind) : Bool := k == some .local || k == some .cell || k == some .free
noncomputable def isW (k : Option NameKind) : Bool := k == some .local || k == some .cell
noncomputable def dbg (x : Str) : Bool := x == ("__debug__" : Str) || x == ("__classdict__" : Str) || x == (".0" : Str)
noncomputable def scOk (ns : Ns) (sc : Scope) : Bool :=
  sc.kind == .function && !sc.isGenerator && !sc.isCoroutine && decide ((sc.names.map (·.1)).Nodup) &&
  sc.names.all (fun p => p.2 != .free || ns.lookup p.1 == some .cell || ns.lookup p.1 == some .free) && sc.names.all (fun p => p.2 != .globalExplicit)
noncomputable def cmOk (xs : List Str) (sc : Scope) : Bool :=
  xs.all (fun x => sc.names.lookup x == some .local) && sc.names.all (fun p => p.2 != .cell) && sc.names.all (fun p => p.2 != .local || xs.contains p.1 || p.1 == (".0" : Str))
structure XP where
  e1 : Expr
  e2 : Expr
  e3 : Expr
  es : List Expr
  dk : List (Option Expr)
  kw : List Keyword
  k : Nat
  n : Str
  c : Const
  bo : BoolOp
  o : Operator
  uo : UnaryOp
  g : List Comprehension
  sc : Scope
  la : Arguments
  ops : List CmpOp
  lo : Option Expr
  hi : Option Expr
  st : Option Expr
noncomputable abbrev nE : Expr := .Slice none none none ⟨0, 0, 0, 0⟩
noncomputable def xp0 : XP := ⟨nE, nE, nE, [], [], [], 0, Str.empty, .none, .And, .Add, .Not, [], ⟨.function, [], false, false, []⟩, ⟨[], [], none, [], [], none, []⟩, [], none, none, none⟩
noncomputable def xp (e : Expr) : XP := Expr.casesOn (motive_1 := fun z_ => XP) e
  (fun x0 x1 z_ => ⟨nE, nE, nE, x1, [], [], 0, Str.empty, .none, x0, .Add, .Not, [], ⟨.function, [], false, false, []⟩, ⟨[], [], none, [], [], none, []⟩, [], none, none, none⟩)
  (fun z_ z_ z_ => xp0)
  (fun x0 x1 x2 z_ => ⟨x0, x2, nE, [], [], [], 0, Str.empty, .none, .And, x1, .Not, [], ⟨.function, [], false, false, []⟩, ⟨[], [], none, [], [], none, []⟩, [], none, none, none⟩)
  (fun x0 x1 z_ => ⟨x1, nE, nE, [], [], [], 0, Str.empty, .none, .And, .Add, x0, [], ⟨.function, [], false, false, []⟩, ⟨[], [], none, [], [], none, []⟩, [], none, none, none⟩)
  (fun x0 x1 x2 z_ => ⟨x1, nE, nE, [], [], [], 0, Str.empty, .none, .And, .Add, .Not, [], x2, x0, [], none, none, none⟩)
  (fun x0 x1 x2 z_ => ⟨x0, x1, x2, [], [], [], 0, Str.empty, .none, .And, .Add, .Not, [], ⟨.function, [], false, false, []⟩, ⟨[], [], none, [], [], none, []⟩, [], none, none, none⟩)
  (fun x0 x1 z_ => ⟨nE, nE, nE, x1, x0, [], 0, Str.empty, .none, .And, .Add, .Not, [], ⟨.function, [], false, false, []⟩, ⟨[], [], none, [], [], none, []⟩, [], none, none, none⟩)
  (fun z_ z_ z_ => xp0)
  (fun x0 x1 x2 z_ => ⟨x0, nE, nE, [], [], [], 0, Str.empty, .none, .And, .Add, .Not, x1, x2, ⟨[], [], none, [], [], none, []⟩, [], none, none, none⟩)
  (fun z_ z_ z_ z_ => xp0)
  (fun z_ z_ z_ z_ z_ => xp0)
  (fun z_ z_ z_ z_ => xp0)
  (fun z_ z_ => xp0)
  (fun z_ z_ => xp0)
  (fun z_ z_ => xp0)
  (fun x0 x1 x2 z_ => ⟨x0, nE, nE, x2, [], [], 0, Str.empty, .none, .And, .Add, .Not, [], ⟨.function, [], false, false, []⟩, ⟨[], [], none, [], [], none, []⟩, x1, none, none, none⟩)
  (fun x0 x1 x2 z_ => ⟨x0, nE, nE, x1, [], x2, 0, Str.empty, .none, .And, .Add, .Not, [], ⟨.function, [], false, false, []⟩, ⟨[], [], none, [], [], none, []⟩, [], none, none, none⟩)
  (fun z_ z_ z_ z_ => xp0)
  (fun z_ z_ => xp0)
  (fun x0 x1 z_ => ⟨nE, nE, nE, [], [], [], x1, Str.empty, x0, .And, .Add, .Not, [], ⟨.function, [], false, false, []⟩, ⟨[], [], none, [], [], none, []⟩, [], none, none, none⟩)
  (fun x0 x1 z_ => ⟨x0, nE, nE, [], [], [], 0, x1, .none, .And, .Add, .Not, [], ⟨.function, [], false, false, []⟩, ⟨[], [], none, [], [], none, []⟩, [], none, none, none⟩)
  (fun x0 x1 z_ => ⟨x0, x1, nE, [], [], [], 0, Str.empty, .none, .And, .Add, .Not, [], ⟨.function, [], false, false, []⟩, ⟨[], [], none, [], [], none, []⟩, [], none, none, none⟩)
  (fun z_ z_ => xp0)
  (fun x0 z_ => ⟨nE, nE, nE, [], [], [], 0, x0, .none, .And, .Add, .Not, [], ⟨.function, [], false, false, []⟩, ⟨[], [], none, [], [], none, []⟩, [], none, none, none⟩)
  (fun x0 z_ => ⟨nE, nE, nE, x0, [], [], 0, Str.empty, .none, .And, .Add, .Not, [], ⟨.function, [], false, false, []⟩, ⟨[], [], none, [], [], none, []⟩, [], none, none, none⟩)
  (fun x0 x1 z_ => ⟨nE, nE, nE, x0, [], [], x1, Str.empty, .none, .And, .Add, .Not, [], ⟨.function, [], false, false, []⟩, ⟨[], [], none, [], [], none, []⟩, [], none, none, none⟩)
  (fun x0 x1 x2 z_ => ⟨nE, nE, nE, [], [], [], 0, Str.empty, .none, .And, .Add, .Not, [], ⟨.function, [], false, false, []⟩, ⟨[], [], none, [], [], none, []⟩, [], x0, x1, x2⟩)
noncomputable def ex1 (e : Expr) : Expr := (xp e).e1
noncomputable def ex2 (e : Expr) : Expr := (xp e).e2
noncomputable def ex3 (e : Expr) : Expr := (xp e).e3
noncomputable def exs (e : Expr) : List Expr := (xp e).es
noncomputable def exdk (e : Expr) : List (Option Expr) := (xp e).dk
noncomputable def exkw (e : Expr) : List Keyword := (xp e).kw
noncomputable def exk (e : Expr) : Nat := (xp e).k
noncomputable def exn (e : Expr) : Str := (xp e).n
noncomputable def exc (e : Expr) : Const := (xp e).c
noncomputable def exbo (e : Expr) : BoolOp := (xp e).bo
noncomputable def exo (e : Expr) : Operator := (xp e).o
noncomputable def exuo (e : Expr) : UnaryOp := (xp e).uo
noncomputable def exg (e : Expr) : List Comprehension := (xp e).g
noncomputable def exsc (e : Expr) : Scope := (xp e).sc
noncomputable def exops (e : Expr) : List CmpOp := (xp e).ops
noncomputable def slLo (e : Expr) : Option Expr := (xp e).lo
noncomputable def slHi (e : Expr) : Option Expr := (xp e).hi
noncomputable def slSt (e : Expr) : Option Expr := (xp e).st
noncomputable def lamB (e : Expr) : Expr := (xp e).e1
noncomputable def lamS (e : Expr) : Scope := (xp e).sc
noncomputable def lamA (e : Expr) : Arguments := (xp e).la
noncomputable def noCall0 (e : Expr) : Bool := !(e.ctorIdx == 16 && ((ex1 e).ctorIdx == 23 && ((exs e).isEmpty && (exkw e).isEmpty)))
noncomputable def bare (e : Expr) : Bool := match e.ctorIdx with
  | 15 => decide ((exops e).length = (exs e).length) && !(exops e).isEmpty
  | 16 => (exkw e).isEmpty
  | 6 => (exdk e).isEmpty && (exs e).isEmpty
  | _ => false
noncomputable def onLine (e : Expr) : Bool := (ex1 e).pos.endLine == e.pos.line && decide ((exs e).length < 30)
noncomputable def isInt (i : Int) (e : Expr) : Bool := e.ctorIdx == 19 && mtC (exc e) (.int i)
noncomputable def isM1 : Option Expr → Bool
  | some y => y.ctorIdx == 3 && (exuo y == .USub && isInt 1 (ex1 y))
  | none => false
noncomputable def tabName (t : Nat) : Str := ⟨#[46, t]⟩
noncomputable def tabMk : Option Nat → Ns
  | none => []
  | some t => [(tabName t, .globalExplicit)]
noncomputable def lam1 (x : String) (a : Arguments) : Bool := a.posonlyargs.isEmpty && a.vararg.isNone && a.kwonlyargs.isEmpty && a.kw_defaults.isEmpty && a.kwarg.isNone && a.defaults.isEmpty && a.args.map (·.arg) == [Str.ofString x]
noncomputable def lmOk (ns : Ns) (x : String) (sc : Scope) : Bool :=
  sc.kind == .function && !sc.isGenerator && !sc.isCoroutine && decide ((sc.names.map (·.1)).Nodup) && sc.names.lookup (Str.ofString x) == some .local &&
  sc.names.all (fun q => q.2 != .cell && q.2 != .globalExplicit && (q.2 != .local || q.1 == Str.ofString x) && (q.2 != .free || ns.lookup q.1 == some .cell || ns.lookup q.1 == some .free))
noncomputable def kwLam : List Keyword → Option Expr
  | [k] => if k.arg == some (Str.ofString "key") && k.value.ctorIdx == 4 then some k.value else none
  | _ => none
noncomputable def rbE (i : Nat) (e : Expr) : Expr := match i with
  | 0 => .BoolOp (exbo e) (exs e) e.pos
  | 2 => .BinOp (ex1 e) (exo e) (ex2 e) e.pos
  | 3 => .UnaryOp (exuo e) (ex1 e) e.pos
  | 5 => .IfExp (ex1 e) (ex2 e) (ex3 e) e.pos
  | 6 => .Dict (exdk e) (exs e) e.pos
  | 8 => .ListComp (ex1 e) (exg e) (exsc e) e.pos
  | 15 => .Compare (ex1 e) (exops e) (exs e) e.pos
  | 16 => .Call (ex1 e) (exs e) (exkw e) e.pos
  | 19 => .Constant (exc e) (exk e) e.pos
  | 20 => .Attribute (ex1 e) (exn e) e.pos
  | 21 => .Subscript (ex1 e) (ex2 e) e.pos
  | 23 => .Name (exn e) e.pos
  | 24 => .List (exs e) e.pos
  | 25 => .Tuple (exs e) (exk e) e.pos
  | 26 => .Slice (slLo e) (slHi e) (slSt e) e.pos
  | _ => e
theorem rbE_eq (e : Expr) : rbE e.ctorIdx e = e := by cases e <;> rfl
mutual
noncomputable def mtE (ns : Ns) (e : Expr) (r : RE) : Bool := match r with
  | .const v => e.ctorIdx == 19 && mtC (exc e) v
  | .loc x => e.ctorIdx == 23 && (exn e == Str.ofString x && isL (ns.lookup (exn e)) && !dbg (exn e))
  | .glb x => e.ctorIdx == 23 && (exn e == Str.ofString x && ns.lookup (exn e) == some .globalImplicit && !dbg (exn e))
  | .boolop b rs => e.ctorIdx == 0 && (((exbo e == .And) == b) && mtEs ns (exs e) rs)
  | .bin o a b => e.ctorIdx == 2 && (exo e == o && mtE ns (ex1 e) a && mtE ns (ex2 e) b)
  | .not a => e.ctorIdx == 3 && (exuo e == .Not && mtE ns (ex1 e) a)
  | .neg a => e.ctorIdx == 3 && (exuo e == .USub && mtE ns (ex1 e) a)
  | .cond t b o => e.ctorIdx == 5 && (mtE ns (ex1 e) t && mtE ns (ex2 e) b && mtE ns (ex3 e) o)
  | .list rs => e.ctorIdx == 24 && mtEs ns (exs e) rs
  | .tup rs => e.ctorIdx == 25 && mtEs ns (exs e) rs
  | .dict0 => false
  | .comp1 elt x it ifs => e.ctorIdx == 8 && (scOk ns (exsc e) && (match exg e with
      | [g] => g.target.ctorIdx == 23 && g.is_async == 0 && exn g.target == Str.ofString x && cmOk [exn g.target] (exsc e) && mtE ns g.iter it && mtEs (exsc e).names g.ifs ifs
      | _ => false) && mtE (exsc e).names (ex1 e) elt)
  | .comp2 _ _ _ _ _ _ => false
  | .cmp a ops es => e.ctorIdx == 15 && (exops e == ops && bare e && mtE ns (ex1 e) a && mtEs ns (exs e) es)
  | .meth o x args => e.ctorIdx == 16 && ((ex1 e).ctorIdx == 20 && bare e && noCall0 (ex1 (ex1 e)) && exn (ex1 e) == Str.ofString x && mtE ns (ex1 (ex1 e)) o && mtEs ns (exs e) args && onLine e)
  | .call f args => e.ctorIdx == 16 && ((ex1 e).ctorIdx == 23 && bare e && mtE ns (ex1 e) f && mtEs ns (exs e) args)
  | .attr o x => e.ctorIdx == 20 && (noCall0 (ex1 e) && exn e == Str.ofString x && mtE ns (ex1 e) o)
  | .sub o i => e.ctorIdx == 21 && (mtE ns (ex1 e) o && mtE ns (ex2 e) i)
  | .junk => e.ctorIdx == 16 || e.ctorIdx == 21
  | .rev _ => false
  | .upto _ _ => false
  | .sortk arg x body t => e.ctorIdx == 16 && (ns.lookup (tabName t) == some .globalExplicit && (ex1 e).ctorIdx == 23 && exn (ex1 e) == Str.ofString "sorted" && ns.lookup (Str.ofString "sorted") == some .globalImplicit && (match exs e with
      | [a] => mtE ns a arg
      | _ => false) && (match kwLam (exkw e) with
      | some l => lam1 x (lamA l) && lmOk ns x (lamS l) && mtE (lamS l).names (lamB l) body
      | none => false))
termination_by structural r
noncomputable def mtEs (ns : Ns) (es : List Expr) (rs : List RE) : Bool := match rs with
  | [] => es.isEmpty
  | r :: rs => match es with | e :: es => mtE ns e r && mtEs ns es rs | [] => false
termination_by structural rs
end
noncomputable def mtNames (ns : Ns) : List Expr → List String → Bool
  | [], [] => true
  | .Name id _ :: es, x :: xs => id == Str.ofString x && isW (ns.lookup id) && mtNames ns es xs
  | _, _ => false
noncomputable def mtTg (ns : Ns) (t : Expr) (r : RTg) : Bool := match r with
  | .name x => t.ctorIdx == 23 && (exn t == Str.ofString x && isW (ns.lookup (exn t)))
  | .names xs => t.ctorIdx == 25 && mtNames ns (exs t) xs
noncomputable def plainVal (e : Expr) : Bool := !(e.ctorIdx == 8 || e.ctorIdx == 9 || e.ctorIdx == 10)
noncomputable def notTup (e : Expr) : Bool := !(e.ctorIdx == 25)
noncomputable def asgPl (t : RTg) (e : Expr) : Bool := match t with | .name _ => true | .names _ => plainVal e && notTup e
structure YP where
  e1 : Expr
  ro : Option Expr
  es : List Expr
  a : List Stmt
  b : List Stmt
  f : List Stmt
  hs : List ExceptHandler
noncomputable def yp0 : YP := ⟨nE, none, [], [], [], [], []⟩
noncomputable def yp (st : Stmt) : YP := Stmt.casesOn (motive_2 := fun z_ => YP) st
  (fun z_ z_ z_ z_ z_ z_ z_ z_ z_ z_ => yp0)
  (fun z_ z_ z_ z_ z_ z_ z_ z_ z_ z_ => yp0)
  (fun z_ z_ z_ z_ z_ z_ z_ z_ z_ z_ z_ => yp0)
  (fun x0 z_ => ⟨(x0.getD nE), x0, [], [], [], [], []⟩)
  (fun x0 z_ => ⟨nE, none, x0, [], [], [], []⟩)
  (fun x0 x1 z_ => ⟨x1, none, x0, [], [], [], []⟩)
  (fun z_ z_ z_ z_ z_ z_ z_ => yp0)
  (fun z_ z_ z_ z_ => yp0)
  (fun z_ z_ z_ z_ z_ => yp0)
  (fun x0 x1 x2 x3 z_ => ⟨x1, none, [x0], x2, x3, [], []⟩)
  (fun z_ z_ z_ z_ z_ => yp0)
  (fun x0 x1 x2 z_ => ⟨x0, none, [], x1, x2, [], []⟩)
  (fun x0 x1 x2 z_ => ⟨x0, none, [], x1, x2, [], []⟩)
  (fun z_ z_ z_ => yp0)
  (fun z_ z_ z_ => yp0)
  (fun z_ z_ z_ => yp0)
  (fun z_ z_ z_ => yp0)
  (fun x0 x1 x2 x3 z_ => ⟨nE, none, [], x0, x2, x3, x1⟩)
  (fun z_ z_ z_ z_ z_ => yp0)
  (fun z_ z_ z_ => yp0)
  (fun z_ z_ => yp0)
  (fun z_ z_ z_ z_ => yp0)
  (fun z_ z_ => yp0)
  (fun z_ z_ => yp0)
  (fun x0 z_ => ⟨x0, none, [], [], [], [], []⟩)
  (fun z_ => yp0)
  (fun z_ => yp0)
  (fun z_ => yp0)
noncomputable def st1 (st : Stmt) : Expr := (yp st).e1
noncomputable def str' (st : Stmt) : Option Expr := (yp st).ro
noncomputable def sts (st : Stmt) : List Expr := (yp st).es
noncomputable def sta (st : Stmt) : List Stmt := (yp st).a
noncomputable def stb' (st : Stmt) : List Stmt := (yp st).b
noncomputable def stf (st : Stmt) : List Stmt := (yp st).f
noncomputable def sth (st : Stmt) : List ExceptHandler := (yp st).hs
noncomputable def stt (st : Stmt) : Expr := (sts st).headD nE
noncomputable def rbS (i : Nat) (st : Stmt) : Stmt := match i with
  | 3 => .Return (str' st) st.pos
  | 5 => .Assign (sts st) (st1 st) st.pos
  | 9 => .For (stt st) (st1 st) (sta st) (stb' st) st.pos
  | 11 => .While (st1 st) (sta st) (stb' st) st.pos
  | 12 => .If (st1 st) (sta st) (stb' st) st.pos
  | 17 => .Try (sta st) (sth st) (stb' st) (stf st) st.pos
  | 24 => .Expr (st1 st) st.pos
  | 25 => .Pass st.pos
  | 26 => .Break st.pos
  | 27 => .Continue st.pos
  | _ => st
theorem rbS_eq (st : Stmt) : rbS st.ctorIdx st = st := by cases st <;> rfl
noncomputable def one {α : Type} : List α → Bool
  | [z_] => true
  | z_ => false
noncomputable def sbare (st : Stmt) : Bool := match st.ctorIdx with
  | 5 => one (sts st)
  | 9 => (stb' st).isEmpty
  | 11 => (stb' st).isEmpty
  | 17 => (stb' st).isEmpty && (stf st).isEmpty && !(sth st).isEmpty
  | 3 => (str' st).isSome
  | z_ => false
mutual
noncomputable def mtS (ns : Ns) (st : Stmt) (r : RT) : Bool := match r with
  | .expr r => st.ctorIdx == 24 && (plainVal (st1 st) && mtE ns (st1 st) r)
  | .ret v => st.ctorIdx == 3 && (match v with
      | none => !sbare st
      | some r => sbare st && mtE ns (st1 st) r)
  | .asg t r => st.ctorIdx == 5 && (sbare st && mtE ns (st1 st) r && mtTg ns (stt st) t && asgPl t (st1 st))
  | .asgAttr o x e => st.ctorIdx == 5 && (sbare st && (stt st).ctorIdx == 20 && mtE ns (st1 st) e && mtE ns (ex1 (stt st)) o && exn (stt st) == Str.ofString x)
  | .asgSub _ _ _ => false
  | .ite t a b => st.ctorIdx == 12 && (mtE ns (st1 st) t && mtSs ns (sta st) a && mtSs ns (stb' st) b)
  | .for_ t it b => st.ctorIdx == 9 && (sbare st && mtTg ns (stt st) t && mtE ns (st1 st) it && mtSs ns (sta st) b)
  | .while_ _ _ => false
  | .try_ _ => false
  | .raise_ => st.ctorIdx == 16
  | .brk => st.ctorIdx == 26
  | .cont => st.ctorIdx == 27
  | .pass => st.ctorIdx == 25
  | .delSub _ _ => st.ctorIdx == 4
termination_by structural r
noncomputable def mtSs (ns : Ns) (ss : List Stmt) (rs : List RT) : Bool := match rs with
  | [] => ss.isEmpty
  | r :: rs => match ss with | s :: ss => mtS ns s r && mtSs ns ss rs | [] => false
termination_by structural rs
end
noncomputable def asInt : RV → Option Int
  | .int i => some i
  | _ => none
noncomputable def vStr : Value → Option Str
  | .str x _ => some x
  | _ => none
noncomputable def vInt : Value → Option Int
  | .int i _ => some i
  | _ => none
noncomputable def fdM : List (Str × RV) → List DictEntry → Bool
  | [], [] => true
  | e :: es, d :: ds => vStr d.key == some e.1 && (asInt e.2).isSome && vInt d.val == asInt e.2 && fdM es ds
  | _, _ => false
noncomputable def vNone : Value → Bool
  | .none => true
  | _ => false
noncomputable def vBool : Value → Option Bool
  | .bool b => some b
  | _ => none
noncomputable def vRef : Value → Option Addr
  | .ref a => some a
  | _ => none
noncomputable def dctOf (o : Obj) : Option (List DictEntry × Nat) := match o.data with
  | .dict ds n => if o.cls == .type "dict" && o.dict.isNone && o.slots.isEmpty then some (ds.toList, n) else none
  | _ => none
noncomputable def tupOf (o : Obj) : Option (List Value × Nat) := match o.data with
  | .seq vs n => if o.cls == .type "tuple" && o.dict.isNone && o.slots.isEmpty then some (vs.toList, n) else none
  | _ => none
noncomputable def dctIn (K : Frag) (a : Addr) : Option (List DictEntry × Nat) := (K.lookup a).bind dctOf
noncomputable def tupIn (K : Frag) (a : Addr) : Option (List Value × Nat) := (K.lookup a).bind tupOf
noncomputable def fdOk (K : Frag) (a : Addr) (es : List (Str × RV)) : Bool := nsIn K mainGlobals "HEIGHTS" == some (some (.ref a)) && (match dctIn K a with
        | some d => fdM es d.1 && decide ((es.map (·.1)).Nodup) && !(a == sysModules)
        | none => false)
noncomputable def mtV0 (K : Frag) (u : Value) (v : RV) : Bool := match v with
    | .none => vNone u
    | .bool b => vBool u == some b
    | .int i => vInt u == some i
    | .str s => vStr u == some s
    | .fn x => match vRef u with
      | some a => nsIn K mainGlobals (Str.ofString x) == some (some (.ref a))
      | none => false
    | .fdict es => match vRef u with
      | some a => fdOk K a es
      | none => false
    | _ => false
noncomputable def mtV (K : Frag) : Nat → Value → RV → Bool
  | 0, u, v => mtV0 K u v
  | n + 1, u, v => match v with
    | .tup us => match (vRef u).bind (tupIn K) with
      | some d => decide (d.1.length = us.length) && (d.1.zip us).all fun p => mtV K n p.1 p.2
      | none => false
    | v => mtV0 K u v
noncomputable def codeHdB (K : Frag) (cd : Value) (P : Addr) : Bool := match cd with
  | .ref c => (match K.lookup c with
    | some ⟨.type y, _, .fields vs, _⟩ => y == "code" && vs[11]? == some (.ref P) && (match vs.getD 18 .none with | .str _ _ => true | _ => false) && (match vs.getD 7 .none with | .int _ _ => true | _ => false) && (match vs.getD 9 .none with | .bool _ => true | _ => false) && (match vs.getD 10 .none with | .int _ _ => true | _ => false) && !(c == P)
    | _ => false)
  | _ => false
noncomputable def tabOkB (K : Frag) (T : List Nat) (cd : Value) : Option Nat → Bool
  | none => true
  | some t => match T[t]? with
    | some P => codeHdB K cd P
    | none => false
noncomputable def mtFn (K : Frag) (T : List Nat) (f : Addr) (qual : Str) (d : RFn) : Bool := match K.lookup f with
  | some ⟨.type _, _, .func fd, _⟩ =>
    fd.globals == mainGlobals && fd.closure.isEmpty && fd.builtins == builtinsNs && fd.qualname == qual && codeIn K fd.code fd.qualname &&
    !fd.scope.isGenerator && !fd.scope.isCoroutine && fd.scope.kind == .function && decide ((fd.scope.names.map (·.1)).Nodup) && fd.scope.names.all (fun q => q.2 != .free) && fd.scope.names.all (fun q => q.2 != .globalExplicit) && tabOkB K T fd.code d.tab &&
    fd.params.posonlyargs.isEmpty && fd.params.vararg.isNone && fd.params.kwonlyargs.isEmpty && fd.params.kwarg.isNone &&
    fd.params.args.map (·.arg) == d.params.map Str.ofString && fd.params.args.all (fun a => isW (fd.scope.names.lookup a.arg)) && decide ((d.params).Nodup) && decide (d.dflts.length ≤ d.params.length) &&
    (match fd.defaults with
      | .none => d.dflts.isEmpty
      | .ref t => (match K.lookup t with
        | some ⟨.type c, none, .seq vs _, _⟩ => c == "tuple" && decide (vs.toList.length = d.dflts.length) && (vs.toList.zip d.dflts).all fun p => mtV K 4 p.1 p.2
        | _ => false)
      | _ => false) &&
    (match fd.kwdefaults with | .none => true | _ => false) &&
    (match fd.body with | .stmts b => mtSs (tabMk d.tab ++ fd.scope.names) b d.body | .expr _ => false)
  | _ => false
noncomputable def mtProg (K : Frag) (G : RProg) : Bool :=
  (G.funs.all fun p => match nsIn K mainGlobals (Str.ofString p.1) with
    | some (some (.ref f)) => mtFn K G.tabs f (Str.ofString p.1) p.2
    | _ => false) &&
  (G.clss.all fun c => match nsIn K mainGlobals (Str.ofString c.1) with
    | some (some (.ref C)) => makesIn K C && hasDictIn K C && keepIn K (.ref C) && plainGet K C (Str.ofString c.1) && findIn K (.ref C) "__setattr__" == some (some (.builtin "object.__setattr__")) && plainOver K C &&
      (c.2.attrs.all fun x => match findIn K (.ref C) (Str.ofString x) with
        | some attr => noGet K attr && takerIn K C (Str.ofString x) == some none
        | none => false) && c.2.ms.all fun p => match findIn K (.ref C) (Str.ofString p.1) with
      | some (some (.ref f)) => isFn K (.ref f) && mtFn K G.tabs f (Str.ofString c.1 ++ "." ++ Str.ofString p.1) p.2
      | _ => false
    | _ => false) &&
  (biNames.all fun x => nsIn K mainGlobals (Str.ofString x) == some none) && (tyNames.all fun x => nsIn K mainGlobals (Str.ofString x) == some none) &&
  (G.vals.all fun p => match nsIn K mainGlobals (Str.ofString p.1) with
    | some (some v) => mtV K 4 v p.2
    | _ => false)
theorem an {a b : Bool} (h : (a && b) = true) : a = true ∧ b = true := Bool.and_eq_true_iff.mp h
section
variable {e : Expr} {st : Stmt}
theorem kConst (h : (e.ctorIdx == 19) = true) : ∃ a b c, e = .Constant a b c := by
  have x := rbE_eq e
  rw [eq_of_beq h] at x
  exact ⟨_, _, _, x.symm⟩
theorem kName (h : (e.ctorIdx == 23) = true) : ∃ a b, e = .Name a b := by
  have x := rbE_eq e
  rw [eq_of_beq h] at x
  exact ⟨_, _, x.symm⟩
theorem kBoolOp (h : (e.ctorIdx == 0) = true) : ∃ a b c, e = .BoolOp a b c := by
  have x := rbE_eq e
  rw [eq_of_beq h] at x
  exact ⟨_, _, _, x.symm⟩
theorem kBin (h : (e.ctorIdx == 2) = true) : ∃ a b c d, e = .BinOp a b c d := by
  have x := rbE_eq e
  rw [eq_of_beq h] at x
  exact ⟨_, _, _, _, x.symm⟩
theorem kUn (h : (e.ctorIdx == 3) = true) : ∃ a b c, e = .UnaryOp a b c := by
  have x := rbE_eq e
  rw [eq_of_beq h] at x
  exact ⟨_, _, _, x.symm⟩
theorem kIf (h : (e.ctorIdx == 5) = true) : ∃ a b c d, e = .IfExp a b c d := by
  have x := rbE_eq e
  rw [eq_of_beq h] at x
  exact ⟨_, _, _, _, x.symm⟩
theorem kList (h : (e.ctorIdx == 24) = true) : ∃ a b, e = .List a b := by
  have x := rbE_eq e
  rw [eq_of_beq h] at x
  exact ⟨_, _, x.symm⟩
theorem kTup (h : (e.ctorIdx == 25) = true) : ∃ a b c, e = .Tuple a b c := by
  have x := rbE_eq e
  rw [eq_of_beq h] at x
  exact ⟨_, _, _, x.symm⟩
theorem kComp (h : (e.ctorIdx == 8) = true) : ∃ a b c d, e = .ListComp a b c d := by
  have x := rbE_eq e
  rw [eq_of_beq h] at x
  exact ⟨_, _, _, _, x.symm⟩
theorem kCmp (h : (e.ctorIdx == 15) = true) : ∃ a b c d, e = .Compare a b c d := by
  have x := rbE_eq e
  rw [eq_of_beq h] at x
  exact ⟨_, _, _, _, x.symm⟩
theorem kCall (h : (e.ctorIdx == 16) = true) : ∃ a b c d, e = .Call a b c d := by
  have x := rbE_eq e
  rw [eq_of_beq h] at x
  exact ⟨_, _, _, _, x.symm⟩
theorem kAttr (h : (e.ctorIdx == 20) = true) : ∃ a b c, e = .Attribute a b c := by
  have x := rbE_eq e
  rw [eq_of_beq h] at x
  exact ⟨_, _, _, x.symm⟩
theorem kSub (h : (e.ctorIdx == 21) = true) : ∃ a b c, e = .Subscript a b c := by
  have x := rbE_eq e
  rw [eq_of_beq h] at x
  exact ⟨_, _, _, x.symm⟩
theorem kSExpr (h : (st.ctorIdx == 24) = true) : ∃ a b, st = .Expr a b := by
  have x := rbS_eq st
  rw [eq_of_beq h] at x
  exact ⟨_, _, x.symm⟩
theorem kSRet (h : (st.ctorIdx == 3) = true) : ∃ a b, st = .Return a b := by
  have x := rbS_eq st
  rw [eq_of_beq h] at x
  exact ⟨_, _, x.symm⟩
theorem kSAsg (h : (st.ctorIdx == 5) = true) : ∃ a b c, st = .Assign a b c := by
  have x := rbS_eq st
  rw [eq_of_beq h] at x
  exact ⟨_, _, _, x.symm⟩
theorem kSIf (h : (st.ctorIdx == 12) = true) : ∃ a b c d, st = .If a b c d := by
  have x := rbS_eq st
  rw [eq_of_beq h] at x
  exact ⟨_, _, _, _, x.symm⟩
theorem kSFor (h : (st.ctorIdx == 9) = true) : ∃ a b c d f, st = .For a b c d f := by
  have x := rbS_eq st
  rw [eq_of_beq h] at x
  exact ⟨_, _, _, _, _, x.symm⟩
theorem kSBrk (h : (st.ctorIdx == 26) = true) : ∃ a, st = .Break a := by
  have x := rbS_eq st
  rw [eq_of_beq h] at x
  exact ⟨_, x.symm⟩
theorem kSCont (h : (st.ctorIdx == 27) = true) : ∃ a, st = .Continue a := by
  have x := rbS_eq st
  rw [eq_of_beq h] at x
  exact ⟨_, x.symm⟩
theorem kSPass (h : (st.ctorIdx == 25) = true) : ∃ a, st = .Pass a := by
  have x := rbS_eq st
  rw [eq_of_beq h] at x
  exact ⟨_, x.symm⟩
end
section
variable {ns : Ns} {e : Expr}
theorem inv_const {v : RV} (h : mtE ns e (.const v) = true) : ∃ c k p, e = .Constant c k p ∧ mtC c v = true := by
  refine ob_A (an h) fun h0 h => ?_
  (refine ob_EEE (kConst h0) fun x y z o1_ => ?_; subst o1_)
  exact ⟨_, _, _, rfl, h⟩
theorem inv_loc {x : String} (h : mtE ns e (.loc x) = true) : ∃ p, e = .Name (Str.ofString x) p ∧ isL (ns.lookup (Str.ofString x)) = true ∧ dbg (Str.ofString x) = false := by
  refine ob_A (an h) fun h0 h => ?_
  (refine ob_EE (kName h0) fun z y o1_ => ?_; subst o1_)
  refine ob_A (an h) fun h h3 => ?_
  refine ob_A (an h) fun h1 h2 => ?_
  have e : z = Str.ofString x := eq_of_beq h1
  subst e
  exact ⟨_, rfl, h2, Bool.not_eq_true' _ |>.mp h3⟩
theorem inv_glb {x : String} (h : mtE ns e (.glb x) = true) : ∃ p, e = .Name (Str.ofString x) p ∧ ns.lookup (Str.ofString x) = some .globalImplicit ∧ dbg (Str.ofString x) = false := by
  refine ob_A (an h) fun h0 h => ?_
  (refine ob_EE (kName h0) fun z y o1_ => ?_; subst o1_)
  refine ob_A (an h) fun h h3 => ?_
  refine ob_A (an h) fun h1 h2 => ?_
  have e : z = Str.ofString x := eq_of_beq h1
  subst e
  exact ⟨_, rfl, eq_of_beq h2, Bool.not_eq_true' _ |>.mp h3⟩
theorem inv_boolop {b : Bool} {rs : List RE} (h : mtE ns e (.boolop b rs) = true) : ∃ op es p, e = .BoolOp op es p ∧ (op == .And) = b ∧ mtEs ns es rs = true := by
  refine ob_A (an h) fun h0 h => ?_
  (refine ob_EEE (kBoolOp h0) fun x y z o1_ => ?_; subst o1_)
  refine ob_A (an h) fun h1 h2 => ?_
  exact ⟨_, _, _, rfl, eq_of_beq h1, h2⟩
theorem inv_bin {o : Operator} {a b : RE} (h : mtE ns e (.bin o a b) = true) : ∃ l r p, e = .BinOp l o r p ∧ mtE ns l a = true ∧ mtE ns r b = true := by
  refine ob_A (an h) fun h0 h => ?_
  (refine ob_EEEE (kBin h0) fun x y z u o1_ => ?_; subst o1_)
  refine ob_A (an h) fun h h3 => ?_
  refine ob_A (an h) fun h1 h2 => ?_
  have e : y = o := eq_of_beq h1
  subst e
  exact ⟨_, _, _, rfl, h2, h3⟩
theorem inv_not {a : RE} (h : mtE ns e (.not a) = true) : ∃ x p, e = .UnaryOp .Not x p ∧ mtE ns x a = true := by
  refine ob_A (an h) fun h0 h => ?_
  (refine ob_EEE (kUn h0) fun x y z o1_ => ?_; subst o1_)
  refine ob_A (an h) fun h1 h2 => ?_
  have e : x = .Not := eq_of_beq h1
  subst e
  exact ⟨_, _, rfl, h2⟩
theorem inv_neg {a : RE} (h : mtE ns e (.neg a) = true) : ∃ x p, e = .UnaryOp .USub x p ∧ mtE ns x a = true := by
  refine ob_A (an h) fun h0 h => ?_
  (refine ob_EEE (kUn h0) fun x y z o1_ => ?_; subst o1_)
  refine ob_A (an h) fun h1 h2 => ?_
  have e : x = .USub := eq_of_beq h1
  subst e
  exact ⟨_, _, rfl, h2⟩
theorem inv_cond {t' b' o' : RE} (h : mtE ns e (.cond t' b' o') = true) : ∃ t b o p, e = .IfExp t b o p ∧ mtE ns t t' = true ∧ mtE ns b b' = true ∧ mtE ns o o' = true := by
  refine ob_A (an h) fun h0 h => ?_
  (refine ob_EEEE (kIf h0) fun x y z u o1_ => ?_; subst o1_)
  refine ob_A (an h) fun h h3 => ?_
  refine ob_A (an h) fun h1 h2 => ?_
  exact ⟨_, _, _, _, rfl, h1, h2, h3⟩
theorem inv_list {rs : List RE} (h : mtE ns e (.list rs) = true) : ∃ es p, e = .List es p ∧ mtEs ns es rs = true := by
  refine ob_A (an h) fun h0 h => ?_
  (refine ob_EE (kList h0) fun x y o1_ => ?_; subst o1_)
  exact ⟨_, _, rfl, h⟩
theorem inv_tup {rs : List RE} (h : mtE ns e (.tup rs) = true) : ∃ es k p, e = .Tuple es k p ∧ mtEs ns es rs = true := by
  refine ob_A (an h) fun h0 h => ?_
  (refine ob_EEE (kTup h0) fun x y z o1_ => ?_; subst o1_)
  exact ⟨_, _, _, rfl, h⟩
theorem inv_comp1 {elt' it' : RE} {x' : String} {ifs' : List RE} (h : mtE ns e (.comp1 elt' x' it' ifs') = true) :
    ∃ elt xp it ifs sc p, e = .ListComp elt [⟨.Name (Str.ofString x') xp, it, ifs, 0⟩] sc p ∧ scOk ns sc = true ∧ cmOk [Str.ofString x'] sc = true ∧ mtE ns it it' = true ∧ mtE sc.names elt elt' = true ∧ mtEs sc.names ifs ifs' = true := by
  refine ob_A (an h) fun h0 h => ?_
  (refine ob_EEEE (kComp h0) fun x y z u o1_ => ?_; subst o1_)
  refine ob_A (an h) fun h hE => ?_
  refine ob_A (an h) fun hS h => ?_
  (rcases y with _ | ⟨⟨t, it, ifs, k⟩, _ | ⟨g, gs⟩⟩) <;> first | exact absurd h Bool.false_ne_true | skip
  refine ob_A (an h) fun h h6 => ?_
  refine ob_A (an h) fun h h5 => ?_
  refine ob_A (an h) fun h h4 => ?_
  refine ob_A (an h) fun h h3 => ?_
  refine ob_A (an h) fun h1 h2 => ?_
  (refine ob_EE (kName h1) fun v w o1_ => ?_; subst o1_)
  have e1 : k = 0 := eq_of_beq h2
  have e2 : v = Str.ofString x' := eq_of_beq h3
  subst e1; subst e2
  exact ⟨_, _, _, _, _, _, rfl, hS, h4, h5, hE, h6⟩
theorem inv_cmp {a' : RE} {ops : List CmpOp} {rs : List RE} (h : mtE ns e (.cmp a' ops rs) = true) : ∃ a es p, e = .Compare a ops es p ∧ mtE ns a a' = true ∧ mtEs ns es rs = true := by
  refine ob_A (an h) fun h0 h => ?_
  (refine ob_EEEE (kCmp h0) fun x y z u o1_ => ?_; subst o1_)
  refine ob_A (an h) fun h h4 => ?_
  refine ob_A (an h) fun h h3 => ?_
  refine ob_A (an h) fun h1 h2 => ?_
  have e : y = ops := eq_of_beq h1
  subst e
  exact ⟨_, _, _, rfl, h3, h4⟩
theorem inv_meth {o' : RE} {x : String} {rs : List RE} (h : mtE ns e (.meth o' x rs) = true) :
    ∃ o ap es p, e = .Call (.Attribute o (Str.ofString x) ap) es [] p ∧ noCall0 o = true ∧ mtE ns o o' = true ∧ mtEs ns es rs = true ∧ ap.endLine = p.line ∧ es.length < 30 := by
  refine ob_A (an h) fun h0 h => ?_
  (refine ob_EEEE (kCall h0) fun f es ks p o1_ => ?_; subst o1_)
  refine ob_A (an h) fun h h7 => ?_
  refine ob_A (an h) fun h h6 => ?_
  refine ob_A (an h) fun h h5 => ?_
  refine ob_A (an h) fun h h4 => ?_
  refine ob_A (an h) fun h h3 => ?_
  refine ob_A (an h) fun h1 h2 => ?_
  (refine ob_EEE (kAttr h1) fun o y ap o1_ => ?_; subst o1_)
  have e1 : ks = [] := List.isEmpty_iff.mp h2
  have e2 : y = Str.ofString x := eq_of_beq h4
  subst e1; subst e2
  refine ob_A (an h7) fun h8 h9 => ?_
  exact ⟨_, _, _, _, rfl, h3, h5, h6, eq_of_beq h8, of_decide_eq_true h9⟩
theorem inv_call {f' : RE} {rs : List RE} (h : mtE ns e (.call f' rs) = true) : ∃ id np es p, e = .Call (.Name id np) es [] p ∧ mtE ns (.Name id np) f' = true ∧ mtEs ns es rs = true := by
  refine ob_A (an h) fun h0 h => ?_
  (refine ob_EEEE (kCall h0) fun f es ks p o1_ => ?_; subst o1_)
  refine ob_A (an h) fun h h4 => ?_
  refine ob_A (an h) fun h h3 => ?_
  refine ob_A (an h) fun h1 h2 => ?_
  (refine ob_EE (kName h1) fun o np o1_ => ?_; subst o1_)
  have e1 : ks = [] := List.isEmpty_iff.mp h2
  subst e1
  exact ⟨_, _, _, _, rfl, h3, h4⟩
theorem inv_attr {o' : RE} {x : String} (h : mtE ns e (.attr o' x) = true) : ∃ o p, e = .Attribute o (Str.ofString x) p ∧ noCall0 o = true ∧ mtE ns o o' = true := by
  refine ob_A (an h) fun h0 h => ?_
  (refine ob_EEE (kAttr h0) fun o y p o1_ => ?_; subst o1_)
  refine ob_A (an h) fun h h3 => ?_
  refine ob_A (an h) fun h1 h2 => ?_
  have e : y = Str.ofString x := eq_of_beq h2
  subst e
  exact ⟨_, _, rfl, h1, h3⟩
theorem inv_sub {o' i' : RE} (h : mtE ns e (.sub o' i') = true) : ∃ o i p, e = .Subscript o i p ∧ mtE ns o o' = true ∧ mtE ns i i' = true := by
  refine ob_A (an h) fun h0 h => ?_
  (refine ob_EEE (kSub h0) fun x y z o1_ => ?_; subst o1_)
  refine ob_A (an h) fun h1 h2 => ?_
  exact ⟨_, _, _, rfl, h1, h2⟩
theorem inv_nil {es : List Expr} (h : mtEs ns es [] = true) : es = [] := by
  exact List.isEmpty_iff.mp h
theorem inv_cons {es : List Expr} {r : RE} {rs : List RE} (h : mtEs ns es (r :: rs) = true) : ∃ e es', es = e :: es' ∧ mtE ns e r = true ∧ mtEs ns es' rs = true := by
  cases es with
  | nil => exact absurd h Bool.false_ne_true
  | cons e es => exact ⟨_, _, rfl, an h⟩
end
section
variable {ns : Ns} {st : Stmt}
theorem inv_expr {r : RE} (h : mtS ns st (.expr r) = true) : ∃ e p, st = .Expr e p ∧ plainVal e = true ∧ mtE ns e r = true := by
  refine ob_A (an h) fun h0 h => ?_
  (refine ob_EE (kSExpr h0) fun x y o1_ => ?_; subst o1_)
  exact ⟨_, _, rfl, an h⟩
theorem inv_ret {r : RE} (h : mtS ns st (.ret (some r)) = true) : ∃ e p, st = .Return (some e) p ∧ mtE ns e r = true := by
  refine ob_A (an h) fun h0 h => ?_
  (refine ob_EE (kSRet h0) fun x y o1_ => ?_; subst o1_)
  cases x with
  | none => exact absurd h Bool.false_ne_true
  | some e => exact ⟨_, _, rfl, (an h).2⟩
theorem inv_ret0 (h : mtS ns st (.ret none) = true) : ∃ p, st = .Return none p := by
  refine ob_A (an h) fun h0 h => ?_
  (refine ob_EE (kSRet h0) fun x y o1_ => ?_; subst o1_)
  cases x with
  | none => exact ⟨_, rfl⟩
  | some e => exact absurd h Bool.false_ne_true
theorem inv_asg {t : RTg} {r : RE} (h : mtS ns st (.asg t r) = true) : ∃ a e p, st = .Assign [a] e p ∧ mtE ns e r = true ∧ mtTg ns a t = true ∧ asgPl t e = true := by
  refine ob_A (an h) fun h0 h => ?_
  (refine ob_EEE (kSAsg h0) fun ts e p o1_ => ?_; subst o1_)
  (rcases ts with _ | ⟨a, _ | ⟨b, ts⟩⟩) <;> first | exact absurd (an (an (an h).1).1).1 Bool.false_ne_true | skip
  refine ob_A (an h) fun h h4 => ?_
  refine ob_A (an h) fun h h3 => ?_
  refine ob_A (an h) fun h1 h2 => ?_
  exact ⟨_, _, _, rfl, h2, h3, h4⟩
theorem inv_asgAttr {o' e' : RE} {x : String} (h : mtS ns st (.asgAttr o' x e') = true) : ∃ o ap e p, st = .Assign [.Attribute o (Str.ofString x) ap] e p ∧ mtE ns e e' = true ∧ mtE ns o o' = true := by
  refine ob_A (an h) fun h0 h => ?_
  (refine ob_EEE (kSAsg h0) fun ts e p o1_ => ?_; subst o1_)
  (rcases ts with _ | ⟨a, _ | ⟨b, ts⟩⟩) <;> first | exact absurd (an (an (an (an h).1).1).1).1 Bool.false_ne_true | skip
  refine ob_A (an h) fun h h5 => ?_
  refine ob_A (an h) fun h h4 => ?_
  refine ob_A (an h) fun h h3 => ?_
  refine ob_A (an h) fun h1 h2 => ?_
  (refine ob_EEE (kAttr h2) fun o y ap o1_ => ?_; subst o1_)
  have e : y = Str.ofString x := eq_of_beq h5
  subst e
  exact ⟨_, _, _, _, rfl, h3, h4⟩
theorem inv_ite {t' : RE} {a' b' : List RT} (h : mtS ns st (.ite t' a' b') = true) : ∃ t a b p, st = .If t a b p ∧ mtE ns t t' = true ∧ mtSs ns a a' = true ∧ mtSs ns b b' = true := by
  refine ob_A (an h) fun h0 h => ?_
  (refine ob_EEEE (kSIf h0) fun x y z u o1_ => ?_; subst o1_)
  refine ob_A (an h) fun h h3 => ?_
  refine ob_A (an h) fun h1 h2 => ?_
  exact ⟨_, _, _, _, rfl, h1, h2, h3⟩
theorem inv_for {t' : RTg} {it' : RE} {b' : List RT} (h : mtS ns st (.for_ t' it' b') = true) : ∃ t it b p, st = .For t it b [] p ∧ mtTg ns t t' = true ∧ mtE ns it it' = true ∧ mtSs ns b b' = true := by
  refine ob_A (an h) fun h0 h => ?_
  (refine ob_EEEEE (kSFor h0) fun x y z u v o1_ => ?_; subst o1_)
  refine ob_A (an h) fun h h4 => ?_
  refine ob_A (an h) fun h h3 => ?_
  refine ob_A (an h) fun h1 h2 => ?_
  have e : u = [] := List.isEmpty_iff.mp h1
  subst e
  exact ⟨_, _, _, _, rfl, h2, h3, h4⟩
theorem inv_brk (h : mtS ns st .brk = true) : ∃ p, st = .Break p := by
  exact kSBrk h
theorem inv_cont (h : mtS ns st .cont = true) : ∃ p, st = .Continue p := by
  exact kSCont h
theorem inv_pass (h : mtS ns st .pass = true) : ∃ p, st = .Pass p := by
  exact kSPass h
theorem inv_snil {ss : List Stmt} (h : mtSs ns ss [] = true) : ss = [] := by
  exact List.isEmpty_iff.mp h
theorem inv_scons {ss : List Stmt} {r : RT} {rs : List RT} (h : mtSs ns ss (r :: rs) = true) : ∃ s ss', ss = s :: ss' ∧ mtS ns s r = true ∧ mtSs ns ss' rs = true := by
  cases ss with
  | nil => exact absurd h Bool.false_ne_true
  | cons e ss => exact ⟨_, _, rfl, an h⟩
end
end Mine
section
set_option genSizeOfSpec false
set_option genInjectivity false
set_option genSizeOf false
namespace Mine
open PySem PySem.W PySem.Calls PyProof.Rows
structure Cx where
  prog : Program
  w : World
  K : Frag
  p : Program
  loose : List Str
  mg : Str → Option Value
  mb : Str → Option Value
  G : RProg
abbrev Cx.M (C : Cx) : Model := model C.prog C.w
abbrev Cx.P (C : Cx) : Params := C.w.params
structure Fm where
  A : Around
  env : Env
  h₀ : Heap
  L : Addr
  n : Nat
  d : Nat
  tm : Option Nat
structure Sg where
  ad : List (List Addr)
  H : RH
  s : Shared
abbrev Sg.h (σ : Sg) : Heap := σ.s.heap
abbrev Sg.own (σ : Sg) : List Addr := σ.ad.flatten
def adr (ad : List (List Addr)) (i : Nat) : Option Addr := (ad[i]?).bind List.head?
abbrev tupO (vs : List Value) (n : Nat) : Obj := { cls := .type "tuple", data := .seq vs.toArray n }
abbrev lstO (vs : List Value) (n : Nat) : Obj := { cls := .type "list", data := .seq vs.toArray n }
abbrev dctO (es : List DictEntry) (n : Nat) : Obj := { cls := .type "dict", data := .dict es.toArray n }
abbrev setO (es : List (Int × Value)) (n : Nat) (t : SetTable) : Obj := { cls := .type "set", data := .set es.toArray n t }
abbrev rngO (x y c : Int) (t u v : Tok) : Obj := { cls := .type "range", data := .fields #[.int x t, .int y u, .int c v] }
def SsObj (o : Obj) (ss : List Str) : Prop := o.ExactSet ∧ ∃ es ep t, o.data = .set es ep t ∧ t.fits es.size = true ∧ es.size = ss.length
def FdOk (C : Cx) : Prop := nsIn C.K mainGlobals "HEIGHTS" = some none ∨ ∃ a ds n, nsIn C.K mainGlobals "HEIGHTS" = some (some (.ref a)) ∧ C.K.lookup a = some (dctO ds n) ∧ KeysLit C.P ds
def stb (o : Obj) : Prop := (∀ es n, o.data ≠ .dict es n) ∧ ∀ v, o.data ≠ .cell v
def Fz (σ : Sg) (a : Addr) (o : Obj) : Prop := a ∉ σ.own ∧ σ.h.get? a = some o
mutual
inductive VRel (C : Cx) (σ : Sg) : RV → Value → Prop where
  | none : VRel C σ .none .none
  | bool (b : Bool) : VRel C σ (.bool b) (.bool b)
  | int (i : Int) (t : Tok) : VRel C σ (.int i) (.int i t)
  | str (x : Str) (t : Tok) : VRel C σ (.str x) (.str x t)
  | tup {a : Addr} {us : List RV} {vs : List Value} {n : Nat} : Fz σ a (tupO vs n) → VsRel C σ us vs → VRel C σ (.tup us) (.ref a)
  | rng {a : Addr} {x y c : Int} {t u v : Tok} : Fz σ a (rngO x y c t u v) → VRel C σ (.rng x y c) (.ref a)
  | ref {i : Nat} {a : Addr} : adr σ.ad i = some a → VRel C σ (.ref i) (.ref a)
  | fn {x : String} {a : Addr} : nsIn C.K mainGlobals (Str.ofString x) = some (some (.ref a)) → VRel C σ (.fn x) (.ref a)
  | cls {x : String} {a : Addr} : nsIn C.K mainGlobals (Str.ofString x) = some (some (.ref a)) → VRel C σ (.cls x) (.ref a)
  | bi (x : String) : VRel C σ (.bi x) (.builtin x)
  | ty (x : String) : VRel C σ (.ty x) (.type x)
  | fdict {a : Addr} {es : List (Str × RV)} {ds : List DictEntry} {n : Nat} : nsIn C.K mainGlobals "HEIGHTS" = some (some (.ref a)) → C.K.lookup a = some (dctO ds n) → fdM es ds = true → (es.map (·.1)).Nodup → (a == sysModules) = false → VRel C σ (.fdict es) (.ref a)
  | sset {a : Addr} {ss : List Str} {o : Obj} : Fz σ a o → o.cls = .type "set" → SsObj o ss → VRel C σ (.sset ss) (.ref a)
  | arg {a : Addr} {us : List RV} {vs : List Value} {o : Obj} {n : Nat} : C.K.lookup a = some o → o.cls = .type "list" → o.data = .seq vs.toArray n → VsRel C σ us vs → VRel C σ (.arg us) (.ref a)
  | ktup {a : Addr} {us : List RV} {vs : List Value} {n : Nat} : C.K.lookup a = some (tupO vs n) → VsRel C σ us vs → VRel C σ (.tup us) (.ref a)
inductive VsRel (C : Cx) (σ : Sg) : List RV → List Value → Prop where
  | nil : VsRel C σ [] []
  | cons {u : RV} {v : Value} {us : List RV} {vs : List Value} : VRel C σ u v → VsRel C σ us vs → VsRel C σ (u :: us) (v :: vs)
end
section
variable {C : Cx} {σ σ' : Sg} {u : Value}
def VInv (C : Cx) (σ : Sg) (u : Value) : RV → Prop
  | .none => u = .none
  | .bool b => u = .bool b
  | .int i => ∃ t, u = .int i t
  | .str x => ∃ t, u = .str x t
  | .tup us => ∃ a vs n, u = .ref a ∧ (Fz σ a (tupO vs n) ∨ C.K.lookup a = some (tupO vs n)) ∧ VsRel C σ us vs
  | .rng x y c => ∃ a t v z, u = .ref a ∧ Fz σ a (rngO x y c t v z)
  | .ref i => ∃ a, u = .ref a ∧ adr σ.ad i = some a
  | .fn x => ∃ a, u = .ref a ∧ nsIn C.K mainGlobals (Str.ofString x) = some (some (.ref a))
  | .cls x => ∃ a, u = .ref a ∧ nsIn C.K mainGlobals (Str.ofString x) = some (some (.ref a))
  | .bi x => u = .builtin x
  | .ty x => u = .type x
  | .fdict es => ∃ a ds n, u = .ref a ∧ nsIn C.K mainGlobals "HEIGHTS" = some (some (.ref a)) ∧ C.K.lookup a = some (dctO ds n) ∧ fdM es ds = true ∧ (es.map (·.1)).Nodup ∧ (a == sysModules) = false
  | .sset ss => ∃ a o, u = .ref a ∧ Fz σ a o ∧ o.cls = .type "set" ∧ SsObj o ss
  | .arg us => ∃ a vs o n, u = .ref a ∧ C.K.lookup a = some o ∧ o.cls = .type "list" ∧ o.data = .seq vs.toArray n ∧ VsRel C σ us vs
theorem VRel.inv {v : RV} (h : VRel C σ v u) : VInv C σ u v := by
  cases h with
  | none => exact rfl
  | bool b => exact rfl
  | int i t => exact ⟨t, rfl⟩
  | str x t => exact ⟨t, rfl⟩
  | tup i r => exact ⟨_, _, _, rfl, .inl i, r⟩
  | rng i => exact ⟨_, _, _, _, rfl, i⟩
  | ref i => exact ⟨_, rfl, i⟩
  | fn i => exact ⟨_, rfl, i⟩
  | cls i => exact ⟨_, rfl, i⟩
  | bi x => exact rfl
  | ty x => exact rfl
  | fdict a b c d e => exact ⟨_, _, _, rfl, a, b, c, d, e⟩
  | sset a b c => exact ⟨_, _, rfl, a, b, c⟩
  | arg a b c r => exact ⟨_, _, _, _, rfl, a, b, c, r⟩
  | ktup i r => exact ⟨_, _, _, rfl, .inr i, r⟩
theorem VRel.int_inv {i : Int} (h : VRel C σ (.int i) u) : ∃ t, u = .int i t := h.inv
theorem VRel.str_inv {x : Str} (h : VRel C σ (.str x) u) : ∃ t, u = .str x t := h.inv
theorem VRel.bool_inv {b : Bool} (h : VRel C σ (.bool b) u) : u = .bool b := h.inv
theorem VRel.none_inv (h : VRel C σ .none u) : u = .none := h.inv
theorem VRel.ref_inv {i : Nat} (h : VRel C σ (.ref i) u) : ∃ a, u = .ref a ∧ adr σ.ad i = some a := h.inv
theorem VRel.rng_inv {x y c : Int} (h : VRel C σ (.rng x y c) u) : ∃ a t v z, u = .ref a ∧ Fz σ a (rngO x y c t v z) := h.inv
def VsInv (C : Cx) (σ : Sg) (vs : List Value) : List RV → Prop
  | [] => vs = []
  | x :: us => ∃ y ys, vs = y :: ys ∧ VRel C σ x y ∧ VsRel C σ us ys
theorem VsRel.inv {us : List RV} {vs : List Value} (h : VsRel C σ us vs) : VsInv C σ vs us := by
  cases h with
  | nil => exact rfl
  | cons a b => exact ⟨_, _, rfl, a, b⟩
theorem VsRel.nil_inv {vs : List Value} (h : VsRel C σ [] vs) : vs = [] := h.inv
theorem VsRel.cons_inv {x : RV} {us : List RV} {vs : List Value} (h : VsRel C σ (x :: us) vs) : ∃ y ys, vs = y :: ys ∧ VRel C σ x y ∧ VsRel C σ us ys := h.inv
theorem VsRel.one_inv {x : RV} {vs : List Value} (h : VsRel C σ [x] vs) : ∃ y, vs = [y] ∧ VRel C σ x y := by
  (refine ob_EEAA (h.cons_inv) fun y ys o1_ a b => ?_; subst o1_)
  rw [b.nil_inv]; exact ⟨y, rfl, a⟩
theorem VsRel.length {us : List RV} {vs : List Value} (h : VsRel C σ us vs) : us.length = vs.length := by
  induction us generalizing vs with
  | nil => rw [h.nil_inv]; rfl
  | cons u us ih =>
    refine ob_EEAA h.cons_inv fun y ys e a b => ?_
    rw [e]; exact congrArg (· + 1) (ih b)
theorem VsRel.append {us us' : List RV} {vs vs' : List Value} (h : VsRel C σ us vs) (h' : VsRel C σ us' vs') : VsRel C σ (us ++ us') (vs ++ vs') := by
  induction us generalizing vs with
  | nil => rw [h.nil_inv]; exact h'
  | cons u us ih =>
    refine ob_EEAA h.cons_inv fun y ys e a b => ?_
    rw [e]; exact .cons a (ih b)
theorem VsRel.get {us : List RV} {vs : List Value} (h : VsRel C σ us vs) : ∀ (k : Nat) (u : RV), us[k]? = some u → ∃ v, vs[k]? = some v ∧ VRel C σ u v := by
  induction us generalizing vs with
  | nil => intro k u e; cases e
  | cons u us ih =>
    refine ob_EEAA h.cons_inv fun y ys e a b => ?_
    rw [e]
    intro k u' e
    cases k with
    | zero => exact ⟨y, rfl, Option.some.inj e ▸ a⟩
    | succ k => exact ih b k u' e
def fixd (o : Obj) : Prop := (o.cls = .type "tuple" ∨ o.cls = .type "range" ∨ o.cls = .type "set") ∧ stb o
theorem fixd_tup (vs : List Value) (n : Nat) : fixd (tupO vs n) := ⟨.inl rfl, ⟨(fun z_ z_ e => by cases e), fun z_ e => by cases e⟩⟩
theorem fixd_rng (x y c : Int) (t u v : Tok) : fixd (rngO x y c t u v) := ⟨.inr (.inl rfl), ⟨(fun z_ z_ e => by cases e), fun z_ e => by cases e⟩⟩
theorem fixd_set {o : Obj} {ss : List Str} (h : o.cls = .type "set") (i : SsObj o ss) : fixd o := by
  (revert i; refine ob_AEEEAr fun z_ z_ z_ z_ d z_ => ?_)
  exact ⟨.inr (.inr h), ⟨(fun z_ z_ e => by rw [d] at e; cases e), fun z_ e => by rw [d] at e; cases e⟩⟩
structure Carry (σ σ' : Sg) : Prop where
  ext : ∀ (i : Nat) (b : List Addr), σ.ad[i]? = some b → σ'.ad[i]? = some b
  fz : ∀ a o, fixd o → Fz σ a o → Fz σ' a o
theorem Carry.adr (c : Carry σ σ') {i : Nat} {a : Addr} (h : adr σ.ad i = some a) : Mine.adr σ'.ad i = some a := by
  unfold Mine.adr at h ⊢
  cases hb : σ.ad[i]? with
  | none => rw [hb] at h; cases h
  | some b => rw [hb] at h; rw [c.ext i b hb]; exact h
theorem Carry.refl (σ : Sg) : Carry σ σ := ⟨fun z_ z_ e => e, fun z_ z_ z_ e => e⟩
theorem Carry.trans {a b c : Sg} (x : Carry a b) (y : Carry b c) : Carry a c := ⟨fun i p e => y.ext i p (x.ext i p e), fun p o h e => y.fz p o h (x.fz p o h e)⟩
theorem VRel.mono (c : Carry σ σ') {u : RV} {v : Value} (h : VRel C σ u v) : VRel C σ' u v :=
  VRel.rec (motive_1 := fun u v z_ => VRel C σ' u v) (motive_2 := fun us vs z_ => VsRel C σ' us vs) .none .bool .int .str (fun i z_ r => .tup (c.fz _ _ (fixd_tup _ _) i) r) (fun i => .rng (c.fz _ _ (fixd_rng _ _ _ _ _ _) i))
    (fun i => .ref (c.adr i)) .fn .cls .bi .ty .fdict (fun i d o => .sset (c.fz _ _ (fixd_set d o) i) d o) (fun i d e z_ r => .arg i d e r) (fun i z_ r => .ktup i r) .nil (fun z_ z_ x r => .cons x r) h
theorem VsRel.mono (c : Carry σ σ') {u : List RV} {v : List Value} (h : VsRel C σ u v) : VsRel C σ' u v := by
  induction u generalizing v with
  | nil => rw [h.nil_inv]; exact .nil
  | cons x u ih =>
    refine ob_EEAA h.cons_inv fun y ys e a b => ?_
    rw [e]; exact .cons (a.mono c) (ih b)
end
def strOf : Value → Str
  | .str x _ => x
  | _ => Str.empty
inductive FsRel (C : Cx) (σ : Sg) : List (String × RV) → List DictEntry → Prop where
  | nil : FsRel C σ [] []
  | cons {x : String} {u : RV} {t : Tok} {v : Value} {fs : List (String × RV)} {es : List DictEntry} : VRel C σ u v → FsRel C σ fs es → FsRel C σ ((x, u) :: fs) (⟨PyData.keyHash C.P (Str.ofString x), .str (Str.ofString x) t, v⟩ :: es)
inductive DsRel (C : Cx) (σ : Sg) : List (RV × RV) → List DictEntry → Prop where
  | nil : DsRel C σ [] []
  | cons {x : Str} {u : RV} {t : Tok} {v : Value} {fs : List (RV × RV)} {es : List DictEntry} : VRel C σ u v → DsRel C σ fs es → DsRel C σ ((.str x, u) :: fs) (⟨PyData.keyHash C.P x, .str x t, v⟩ :: es)
inductive SetRel (C : Cx) (σ : Sg) : List (Int × RV) → List (Int × Value) → Prop where
  | nil : SetRel C σ [] []
  | cons {k : Int} {u : RV} {v : Value} {fs : List (Int × RV)} {es : List (Int × Value)} : (tupI u).isSome = true → VRel C σ u v → SetRel C σ fs es → SetRel C σ ((k, u) :: fs) ((k, v) :: es)
inductive ORel (C : Cx) (σ : Sg) : RO → List Addr → Prop where
  | list {us : List RV} {vs : List Value} {a : Addr} {n : Nat} : σ.h.get? a = some (lstO vs n) → VsRel C σ us vs → ORel C σ (.list us) [a]
  | dict {es : List (RV × RV)} {ds : List DictEntry} {a : Addr} {n : Nat} : σ.h.get? a = some (dctO ds n) → DsRel C σ es ds → (ds.map fun e => strOf e.key).Nodup → ORel C σ (.dict es n) [a]
  | set {es : List (Int × RV)} {vs : List (Int × Value)} {a : Addr} {n : Nat} {t : SetTable} : σ.h.get? a = some (setO vs n { t with led := !(C.P.followText "set-order") }) → SetRel C σ es vs → t.fits vs.length = true → ORel C σ (.set es n t) [a]
  | inst {c : String} {k x d : Addr} {fs : List (String × RV)} {ds : List DictEntry} {n : Nat} : σ.h.get? x = some (instObj k d) → σ.h.get? d = some (dctO ds n) → nsIn C.K mainGlobals (Str.ofString c) = some (some (.ref k)) → FsRel C σ fs ds → ORel C σ (.inst c fs) [x, d]
  | tab {b : Bool} {ps : Array Value} {a : Addr} : σ.h.get? a = some (tabObj ps) → (b = false → ps = #[]) → ORel C σ (.tab b) [a]
section
variable {C : Cx} {σ σ' : Sg}
theorem FsRel.mono (c : Carry σ σ') {u : List (String × RV)} {v : List DictEntry} (r : FsRel C σ u v) : FsRel C σ' u v := by
  induction r with
  | nil => exact .nil
  | cons x _ ih => exact .cons (x.mono c) ih
theorem DsRel.mono (c : Carry σ σ') {u : List (RV × RV)} {v : List DictEntry} (r : DsRel C σ u v) : DsRel C σ' u v := by
  induction r with
  | nil => exact .nil
  | cons x _ ih => exact .cons (x.mono c) ih
theorem SetRel.mono (c : Carry σ σ') {u : List (Int × RV)} {v : List (Int × Value)} (r : SetRel C σ u v) : SetRel C σ' u v := by
  induction r with
  | nil => exact .nil
  | cons i x _ ih => exact .cons i (x.mono c) ih
theorem ORel.mono (c : Carry σ σ') {o : RO} {b : List Addr} (hk : ∀ a ∈ b, ∀ x, σ.h.get? a = some x → σ'.h.get? a = some x) (r : ORel C σ o b) : ORel C σ' o b := by
  cases r with
  | list g x => exact .list (hk _ (.head _) _ g) (x.mono c)
  | dict g x d => exact .dict (hk _ (.head _) _ g) (x.mono c) d
  | set g x f => exact .set (hk _ (.head _) _ g) (x.mono c) f
  | inst g g' i x => exact .inst (hk _ (.head _) _ g) (hk _ (.tail _ (.head _)) _ g') i (x.mono c)
  | tab g h => exact .tab (hk _ (.head _) _ g) h
theorem ORel.live {o : RO} {b : List Addr} (r : ORel C σ o b) : ∀ a ∈ b, ∃ x, σ.h.get? a = some x ∧ ¬ (x.cls = .type "tuple") ∧ ¬ (x.cls = .type "range") := by
  cases r with
  | list g x => intro a h; rw [List.mem_singleton] at h; subst h; exact ⟨_, g, by simp, by simp⟩
  | dict g x d => intro a h; rw [List.mem_singleton] at h; subst h; exact ⟨_, g, by simp, by simp⟩
  | set g x f => intro a h; rw [List.mem_singleton] at h; subst h; exact ⟨_, g, by simp, by simp⟩
  | inst g g' i x =>
    intro a h
    rcases List.mem_cons.mp h with rfl | h
    · exact ⟨_, g, by simp, by simp⟩
    · rw [List.mem_singleton] at h; subst h; exact ⟨_, g', by simp, by simp⟩
  | tab g h' => intro a h; rw [List.mem_singleton] at h; subst h; exact ⟨_, g, by simp, by simp⟩
end
def Sm (s s' : Shared) : Prop := s'.gens = s.gens ∧ s'.drawn = s.drawn ∧ s'.os = s.os
theorem Sm.refl (s : Shared) : Sm s s := ⟨rfl, rfl, rfl⟩
theorem Sm.trans {a b c : Shared} (x : Sm a b) (y : Sm b c) : Sm a c := ⟨y.1.trans x.1, y.2.1.trans x.2.1, y.2.2.trans x.2.2⟩
structure Rel (C : Cx) (F : Fm) (m : Str → Option Value) (σ : Sg) : Prop where
  fr : Fr F.h₀ F.L σ.h m
  nd : σ.own.Nodup
  low : ∀ a ∈ σ.own, F.h₀.get? a = none ∧ a ≠ F.L
  len : σ.ad.length = σ.H.length
  R : ∀ (i : Nat) (o : RO), σ.H[i]? = some o → ∃ b, σ.ad[i]? = some b ∧ ORel C σ o b
  tb : ∀ (t : Nat) (P : Addr), C.G.tabs[t]? = some P → σ.ad[t]? = some [P] ∧ ∃ b, σ.H[t]? = some (.tab b)
def face : RO → RO
  | .dict es _ => .dict (es.map fun p => (p.1, .none)) 0
  | o => o
def Ages (o o' : RO) : Prop := ∀ e, epOf o = some e → ∃ e', epOf o' = some e' ∧ e ≤ e' ∧ (e = e' → face o' = face o)
def Hx (H H' : RH) : Prop := ∀ (i : Nat) (o : RO), H[i]? = some o → ∃ o', H'[i]? = some o' ∧ Ages o o'
theorem Ages.refl (o : RO) : Ages o o := fun e h => ⟨e, h, Nat.le_refl _, fun z_ => rfl⟩
theorem Ages.trans {a b c : RO} (x : Ages a b) (y : Ages b c) : Ages a c := fun e h => by
  refine ob_EAA (x e h) fun e1 h1 l1 f1 => ?_
  refine ob_EAA (y e1 h1) fun e2 h2 l2 f2 => ?_
  exact ⟨e2, h2, Nat.le_trans l1 l2, fun q => by
    have q1 : e = e1 := Nat.le_antisymm l1 (q ▸ l2)
    have q2 : e1 = e2 := q1 ▸ q
    rw [f2 q2, f1 q1]⟩
theorem Hx.refl (H : RH) : Hx H H := fun i o e => ⟨o, e, Ages.refl o⟩
theorem Hx.trans {a b c : RH} (x : Hx a b) (y : Hx b c) : Hx a c := fun i o e => by
  refine ob_EA (x i o e) fun o1 h1 a1 => ?_
  refine ob_EA (y i o1 h1) fun o2 h2 a2 => ?_
  exact ⟨o2, h2, a1.trans a2⟩
theorem Hx.snoc (H : RH) (ro : RO) : Hx H (H ++ [ro]) := fun i o e => by
  refine ⟨o, ?_, Ages.refl o⟩
  have hi : i < H.length := by
    by_cases h : i < H.length
    · exact h
    · rw [List.getElem?_eq_none (by omega)] at e; cases e
  rw [List.getElem?_append_left hi]; exact e
theorem Hx.set {H : RH} {i : Nat} {ro : RO} (h : ∀ o, H[i]? = some o → Ages o ro) : Hx H (H.set i ro) := fun j o e => by
  by_cases hj : i = j
  · subst hj
    have hi : i < H.length := by
      by_cases h : i < H.length
      · exact h
      · rw [List.getElem?_eq_none (by omega)] at e; cases e
    exact ⟨ro, by rw [List.getElem?_set_self hi], h o e⟩
  · exact ⟨o, by rw [List.getElem?_set_ne hj]; exact e, Ages.refl o⟩
theorem Ages.none {o ro : RO} (h : epOf o = none) : Ages o ro := fun e h' => by rw [h] at h'; cases h'
structure Nx (X : Addr → Prop) (σ σ' : Sg) : Prop where
  ext : ∀ (i : Nat) (b : List Addr), σ.ad[i]? = some b → σ'.ad[i]? = some b
  new : ∀ a ∈ σ'.own, a ∈ σ.own ∨ σ.h.get? a = none
  liv : ∀ a o, a ∉ σ.own → σ.h.get? a = some o → ∃ o', σ'.h.get? a = some o'
  frm : ∀ a o, a ∉ σ.own → (X a → stb o) → σ.h.get? a = some o → σ'.h.get? a = some o
  sm : Sm σ.s σ'.s
  hx : Hx σ.H σ'.H
section
variable {C : Cx} {F : Fm} {m : Str → Option Value} {X Y : Addr → Prop} {σ σ' σ₁ σ₂ : Sg}
theorem Nx.refl (σ : Sg) : Nx X σ σ := ⟨fun z_ z_ e => e, fun z_ e => .inl e, fun z_ o z_ e => ⟨o, e⟩, fun z_ z_ z_ z_ e => e, Sm.refl _, Hx.refl _⟩
theorem Nx.off (x : Nx X σ σ') {a : Addr} {o : Obj} (h : a ∉ σ.own) (g : σ.h.get? a = some o) : a ∉ σ'.own := fun q => by
  rcases x.new a q with q | q
  · exact h q
  · rw [g] at q; cases q
theorem Nx.trans (x : Nx X σ σ₁) (y : Nx X σ₁ σ₂) : Nx X σ σ₂ where
  ext i b e := y.ext i b (x.ext i b e)
  new a h := by
    rcases y.new a h with h | h
    · exact x.new a h
    · by_cases ha : a ∈ σ.own
      · exact .inl ha
      · refine .inr ?_
        cases g : σ.h.get? a with
        | none => rfl
        | some o => refine ob_E (x.liv a o ha g) fun o' g' => ?_; rw [g'] at h; cases h
  liv a o h g := let ⟨o', g'⟩ := x.liv a o h g; y.liv a o' (x.off h g) g'
  frm a o h k g := y.frm a o (x.off h g) k (x.frm a o h k g)
  sm := x.sm.trans y.sm
  hx := x.hx.trans y.hx
theorem Nx.carry (x : Nx X σ σ') : Carry σ σ' := ⟨x.ext, fun a o h i => ⟨x.off i.1 i.2, x.frm a o i.1 (fun z_ => h.2) i.2⟩⟩
theorem Nx.more (x : Nx X σ σ') (h : ∀ a, X a → Y a) : Nx Y σ σ' := ⟨x.ext, x.new, x.liv, fun a o i k g => x.frm a o i (fun q => k (h a q)) g, x.sm, x.hx⟩
end
end Mine
end
namespace Mine
open PySem PySem.W PySem.Calls PyProof.Rows
section
variable {C : Cx} {F : Fm} {m : Str → Option Value} {X : Addr → Prop} {σ σ' σ₀ : Sg} {s' : Shared}
def Keep (h h' : Heap) : Prop := ∀ a o, h.get? a = some o → h'.get? a = some o
def KeepBut (d : Addr) (h h' : Heap) : Prop := ∀ a o, a ≠ d → h.get? a = some o → h'.get? a = some o
theorem Rel.liveL (r : Rel C F m σ) : ∃ o es ep, σ.h.get? F.L = some o ∧ o.data = .dict es ep := by
  refine ob_EEEAA (r.fr.ns) fun o es ep g d z_ => ?_
  exact ⟨o, es, ep, g, d⟩
theorem Rel.base (r : Rel C F m σ) {a : Addr} {o : Obj} (h : F.h₀.get? a = some o) : σ.h.get? a = some o := r.fr.keep a o h
theorem Rel.off (r : Rel C F m σ) {a : Addr} (h : σ.h.objs.size ≤ a) : F.h₀.get? a = none ∧ a ≠ F.L := by
  constructor
  · cases g : F.h₀.get? a with
    | none => rfl
    | some o => exact absurd (Heap.lt_size (r.base g)) (Nat.not_lt.mpr h)
  · rintro rfl
    refine ob_EEEA (r.liveL) fun o z_ z_ g z_ => ?_
    exact absurd (Heap.lt_size g) (Nat.not_lt.mpr h)
theorem Rel.bl (r : Rel C F m σ) {i : Nat} {b : List Addr} (h : σ.ad[i]? = some b) : ∃ o, σ.H[i]? = some o ∧ ORel C σ o b := by
  have hi : i < σ.H.length := by
    rw [← r.len]
    by_cases hi : i < σ.ad.length
    · exact hi
    · rw [List.getElem?_eq_none (by omega)] at h; cases h
  refine ob_EA (r.R i _ (List.getElem?_eq_getElem hi)) fun b' hb x => ?_
  rw [h] at hb
  cases hb
  exact ⟨_, List.getElem?_eq_getElem hi, x⟩
theorem Rel.live (r : Rel C F m σ) {a : Addr} (h : a ∈ σ.own) : ∃ x, σ.h.get? a = some x ∧ ¬ (x.cls = .type "tuple") ∧ ¬ (x.cls = .type "range") := by
  refine ob_EA (List.mem_flatten.mp h) fun b hb ha => ?_
  refine ob_E (List.mem_iff_getElem?.mp hb) fun i hi => ?_
  refine ob_EA (r.bl hi) fun o z_ x => ?_
  exact x.live a ha
theorem Rel.lt (r : Rel C F m σ) {a : Addr} (h : a ∈ σ.own) : a < σ.h.objs.size := let ⟨_, g, _⟩ := r.live h; Heap.lt_size g
theorem mem_own {i : Nat} {b : List Addr} {a : Addr} (h : σ.ad[i]? = some b) (ha : a ∈ b) : a ∈ σ.own := List.mem_flatten.mpr ⟨b, List.mem_of_getElem? h, ha⟩
theorem fr_of (r : Rel C F m σ) (d : Addr) (hL : d ≠ F.L) (h0 : F.h₀.get? d = none) (hk : KeepBut d σ.h s'.heap) : Fr F.h₀ F.L s'.heap m := by
  refine ob_EEEA (r.fr.ns) fun o es ep g r1 => ?_
  refine ⟨⟨o, es, ep, hk _ _ (Ne.symm hL) g, r1⟩, fun b x e => hk b x (fun q => ?_) (r.fr.keep b x e), r.fr.above⟩
  rw [q, h0] at e; cases e
abbrev Sg.at (σ : Sg) (s' : Shared) : Sg := ⟨σ.ad, σ.H, s'⟩
theorem keep_carry (hk : Keep σ.h s'.heap) : Carry σ (σ.at s') := ⟨fun z_ z_ e => e, fun a o z_ i => ⟨i.1, hk a o i.2⟩⟩
theorem Rel.keep (r : Rel C F m σ) (hk : Keep σ.h s'.heap) : Rel C F m (σ.at s') where
  fr := ⟨r.fr.ns.keeps hk, fun b o e => hk _ _ (r.fr.keep b o e), r.fr.above⟩
  nd := r.nd
  low := r.low
  len := r.len
  R i o e := let ⟨b, hb, x⟩ := r.R i o e; ⟨b, hb, x.mono (keep_carry hk) fun a z_ x g => hk a x g⟩
  tb := r.tb
theorem Nx.keep (hk : Keep σ.h s'.heap) (sm : Sm σ.s s') : Nx X σ (σ.at s') := ⟨fun z_ z_ e => e, fun z_ e => .inl e, fun a o z_ g => ⟨o, hk a o g⟩, fun a o z_ z_ g => hk a o g, sm, Hx.refl _⟩
abbrev Sg.new (σ : Sg) (b : List Addr) (ro : RO) (s' : Shared) : Sg := ⟨σ.ad ++ [b], σ.H ++ [ro], s'⟩
theorem ext_new (b : List Addr) (ro : RO) {i : Nat} {b' : List Addr} (e : σ.ad[i]? = some b') : (σ.new b ro s').ad[i]? = some b' := by
  have hi : i < σ.ad.length := by
    by_cases h : i < σ.ad.length
    · exact h
    · rw [List.getElem?_eq_none (by omega)] at e; cases e
  show (σ.ad ++ [b])[i]? = _
  rw [List.getElem?_append_left hi]; exact e
theorem own_new {b : List Addr} {ro : RO} {a : Addr} : a ∈ (σ.new b ro s').own ↔ a ∈ σ.own ∨ a ∈ b := by
  show a ∈ (σ.ad ++ [b]).flatten ↔ _
  rw [List.flatten_append, List.mem_append]; simp
theorem new_carry {b : List Addr} {ro : RO} (hk : Keep σ.h s'.heap) (hb : ∀ a ∈ b, ∀ o, fixd o → ¬ σ.h.get? a = some o) : Carry σ (σ.new b ro s') where
  ext i b' e := ext_new b ro e
  fz a o hf i := ⟨fun q => by
    rcases own_new.mp q with q | q
    · exact i.1 q
    · exact hb a q o hf i.2, hk a o i.2⟩
theorem Rel.take (r : Rel C F m σ) {b : List Addr} {ro : RO} (hk : Keep σ.h s'.heap) (nd : b.Nodup) (off : ∀ a ∈ b, a ∉ σ.own) (low : ∀ a ∈ b, F.h₀.get? a = none ∧ a ≠ F.L)
    (hb : ∀ a ∈ b, ∀ o, fixd o → ¬ σ.h.get? a = some o) (hr : ORel C (σ.new b ro s') ro b) : Rel C F m (σ.new b ro s') where
  fr := ⟨r.fr.ns.keeps hk, fun b o e => hk _ _ (r.fr.keep b o e), r.fr.above⟩
  nd := by
    show ((σ.ad ++ [b]).flatten).Nodup
    rw [List.flatten_append, List.nodup_append]
    refine ⟨r.nd, by simpa using nd, fun x hx y hy e => ?_⟩
    simp at hy
    exact off y hy (e ▸ hx)
  low a h := by
    rcases own_new.mp h with h | h
    · exact r.low a h
    · exact low a h
  len := by simp [r.len]
  R i o e := by
    by_cases hi : i < σ.H.length
    · have e' : σ.H[i]? = some o := by rw [← List.getElem?_append_left (l₂ := [ro]) hi]; exact e
      refine ob_EA (r.R i o e') fun b' hb' x => ?_
      exact ⟨b', ext_new b ro hb', x.mono (new_carry hk hb) fun a z_ x g => hk a x g⟩
    · have hi' : i = σ.H.length := by
        have : i < (σ.H ++ [ro]).length := by
          by_cases h : i < (σ.H ++ [ro]).length
          · exact h
          · have e : (σ.H ++ [ro])[i]? = some o := e
            rw [List.getElem?_eq_none (by omega)] at e; cases e
        simp at this; omega
      subst hi'
      have e : (σ.H ++ [ro])[σ.H.length]? = some o := e
      rw [List.getElem?_append_right (Nat.le_refl _), Nat.sub_self] at e
      cases e
      refine ⟨b, ?_, hr⟩
      show (σ.ad ++ [b])[σ.H.length]? = _
      rw [← r.len, List.getElem?_append_right (Nat.le_refl _), Nat.sub_self]; rfl
  tb t P e := ⟨ext_new b ro (r.tb t P e).1, let ⟨b', h⟩ := (r.tb t P e).2; ⟨b', by
    have hi : t < σ.H.length := by
      by_cases hi : t < σ.H.length
      · exact hi
      · rw [List.getElem?_eq_none (by omega)] at h; cases h
    show (σ.H ++ [ro])[t]? = _
    rw [List.getElem?_append_left hi]; exact h⟩⟩
theorem Rel.make (r : Rel C F m σ) {b : List Addr} {ro : RO} (hk : Keep σ.h s'.heap) (nd : b.Nodup) (up : ∀ a ∈ b, σ.h.objs.size ≤ a) (hr : ORel C (σ.new b ro s') ro b) : Rel C F m (σ.new b ro s') :=
  r.take hk nd (fun a h q => absurd (r.lt q) (Nat.not_lt.mpr (up a h))) (fun a h => r.off (up a h)) (fun a h o z_ g => absurd (Heap.lt_size g) (Nat.not_lt.mpr (up a h))) hr
theorem up_none {h : Heap} {a : Addr} (u : h.objs.size ≤ a) : h.get? a = none := by
  cases g : h.get? a with
  | none => rfl
  | some o => exact absurd (Heap.lt_size g) (Nat.not_lt.mpr u)
theorem Nx.make {b : List Addr} {ro : RO} (hk : Keep σ.h s'.heap) (sm : Sm σ.s s') (up : ∀ a ∈ b, σ.h.objs.size ≤ a) : Nx X σ (σ.new b ro s') where
  ext i b' e := ext_new b ro e
  new a h := (own_new.mp h).imp id fun q => up_none (up a q)
  liv a o _ g := ⟨o, hk a o g⟩
  frm a o _ _ g := hk a o g
  sm := sm
  hx := Hx.snoc _ _
theorem make_carry {b : List Addr} {ro : RO} (hk : Keep σ.h s'.heap) (up : ∀ a ∈ b, σ.h.objs.size ≤ a) : Carry σ (σ.new b ro s') := new_carry hk fun a h o z_ g => absurd (Heap.lt_size g) (Nat.not_lt.mpr (up a h))
theorem adr_new (r : Rel C F m σ) (a : Addr) (b : List Addr) (ro : RO) : adr (σ.new (a :: b) ro s').ad σ.H.length = some a := by
  unfold adr
  show ((σ.ad ++ [a :: b])[σ.H.length]?).bind _ = _
  rw [← r.len, List.getElem?_append_right (Nat.le_refl _), Nat.sub_self]; rfl
abbrev Sg.chg (σ : Sg) (i : Nat) (ro : RO) (s' : Shared) : Sg := ⟨σ.ad, σ.H.set i ro, s'⟩
theorem chg_carry {i : Nat} {ro : RO} {d : Addr} (hd : d ∈ σ.own) (hk : KeepBut d σ.h s'.heap) : Carry σ (σ.chg i ro s') := ⟨fun z_ z_ e => e, fun a o z_ j => ⟨j.1, hk a o (fun q => j.1 (q ▸ hd)) j.2⟩⟩
theorem Nx.chg {i : Nat} {ro : RO} {d : Addr} (hd : d ∈ σ.own) (hk : KeepBut d σ.h s'.heap) (sm : Sm σ.s s') (ag : ∀ o, σ.H[i]? = some o → Ages o ro) : Nx X σ (σ.chg i ro s') :=
  ⟨fun z_ z_ e => e, fun z_ e => .inl e, fun a o h g => ⟨o, hk a o (fun q => h (q ▸ hd)) g⟩, fun a o h z_ g => hk a o (fun q => h (q ▸ hd)) g, sm, Hx.set ag⟩
theorem flat_ne {ad : List (List Addr)} {i j : Nat} {b b' : List Addr} {a d : Addr} (nd : ad.flatten.Nodup) (hb : ad[i]? = some b) (hb' : ad[j]? = some b') (hne : j ≠ i) (ha : a ∈ b') (hd : d ∈ b) : a ≠ d := by
  rintro rfl
  induction ad generalizing i j with
  | nil => simp at hb
  | cons x ad ih =>
    rw [List.flatten_cons, List.nodup_append] at nd
    cases i with
    | zero =>
      simp at hb; subst hb
      cases j with
      | zero => exact hne rfl
      | succ j => exact nd.2.2 a hd a (List.mem_flatten.mpr ⟨b', List.mem_of_getElem? (by simpa using hb'), ha⟩) rfl
    | succ i =>
      cases j with
      | zero => simp at hb'; subst hb'; exact nd.2.2 a ha a (List.mem_flatten.mpr ⟨b, List.mem_of_getElem? (by simpa using hb), hd⟩) rfl
      | succ j => exact ih nd.2.1 (by simpa using hb) (by simpa using hb') (fun e => hne (by rw [e]))
theorem tb_chg (r : Rel C F m σ) {i : Nat} {ro : RO} (ht : ∀ b, σ.H[i]? = some (.tab b) → ∃ b', ro = .tab b') (t : Nat) (P : Addr) (e : C.G.tabs[t]? = some P) : (σ.chg i ro s').ad[t]? = some [P] ∧ ∃ b, (σ.chg i ro s').H[t]? = some (.tab b) := by
  refine ob_AE (r.tb t P e) fun h1 b h2 => ?_
  refine ⟨h1, ?_⟩
  show ∃ b, (σ.H.set i ro)[t]? = some (.tab b)
  by_cases hj : i = t
  · subst hj
    have hi : i < σ.H.length := by
      by_cases hi : i < σ.H.length
      · exact hi
      · rw [List.getElem?_eq_none (by omega)] at h2; cases h2
    refine ob_E (ht b h2) fun b' e' => ?_
    exact ⟨b', by rw [List.getElem?_set_self hi, e']⟩
  · exact ⟨b, by rw [List.getElem?_set_ne hj]; exact h2⟩
theorem Rel.chg (r : Rel C F m σ) {i : Nat} {b : List Addr} {ro : RO} {d : Addr} (hb : σ.ad[i]? = some b) (hd : d ∈ b) (hk : KeepBut d σ.h s'.heap) (hr : ORel C (σ.chg i ro s') ro b) (ht : ∀ b, σ.H[i]? = some (.tab b) → ∃ b', ro = .tab b') : Rel C F m (σ.chg i ro s') where
  fr := fr_of r d (r.low d (mem_own hb hd)).2 (r.low d (mem_own hb hd)).1 hk
  nd := r.nd
  low := r.low
  len := by simp [r.len]
  R j o e := by
    by_cases hj : j = i
    · subst hj
      have hl : j < σ.H.length := by
        rw [← r.len]
        by_cases hi : j < σ.ad.length
        · exact hi
        · rw [List.getElem?_eq_none (by omega)] at hb; cases hb
      have e : (σ.H.set j ro)[j]? = some o := e
      rw [List.getElem?_set_self hl] at e
      cases e
      exact ⟨b, hb, hr⟩
    · have e : (σ.H.set i ro)[j]? = some o := e
      rw [List.getElem?_set_ne (Ne.symm hj)] at e
      refine ob_EA (r.R j o e) fun b' hb' x => ?_
      exact ⟨b', hb', x.mono (chg_carry (mem_own hb hd) hk) fun a ha x g => hk a x (flat_ne r.nd hb hb' hj ha hd) g⟩
  tb := tb_chg r ht
def idle (o : Obj) : Prop := o.cls ≠ .type "tuple" ∧ o.cls ≠ .type "range" ∧ o.cls ≠ .type "set"
theorem idle.nf {o : Obj} (h : idle o) : ¬ fixd o := fun hf => by
  rcases hf.1 with e | e | e
  · exact h.1 e
  · exact h.2.1 e
  · exact h.2.2 e
theorem dict_nf {o : Obj} {es : Array DictEntry} {n : Nat} (h : o.data = .dict es n) : ¬ fixd o := fun hf => hf.2.1 es n h
theorem tick_carry {I : Addr} {oI : Obj} (g : σ.h.get? I = some oI) (hi : ¬ fixd oI) (hk : KeepBut I σ.h s'.heap) : Carry σ (σ.at s') := ⟨fun z_ z_ e => e, fun a o hf j => ⟨j.1, hk a o (fun q => by
  subst q
  have e := j.2
  rw [g] at e
  cases e
  exact hi hf) j.2⟩⟩
theorem Rel.tick (r : Rel C F m σ) {I : Addr} {oI : Obj} (g : σ.h.get? I = some oI) (hi : ¬ fixd oI) (ho : I ∉ σ.own) (hL : I ≠ F.L) (h0 : F.h₀.get? I = none) (hk : KeepBut I σ.h s'.heap) : Rel C F m (σ.at s') where
  fr := fr_of r I hL h0 hk
  nd := r.nd
  low := r.low
  len := r.len
  R i o e := let ⟨b, hb, x⟩ := r.R i o e; ⟨b, hb, x.mono (tick_carry g hi hk) fun a ha x g => hk a x (fun q => ho (q ▸ mem_own hb ha)) g⟩
  tb := r.tb
theorem Nx.tick (x : Nx X σ₀ σ) {I : Addr} (hI : σ₀.h.get? I = none) (hk : KeepBut I σ.h s'.heap) (sm : Sm σ.s s') : Nx X σ₀ (σ.at s') :=
  have ne : ∀ a o, σ₀.h.get? a = some o → a ≠ I := fun a o g q => by rw [q, hI] at g; cases g
  ⟨x.ext, x.new, fun a o h g => let ⟨o', g'⟩ := x.liv a o h g; ⟨o', hk a o' (ne a o g) g'⟩, fun a o h k g => hk a o (ne a o g) (x.frm a o h k g), x.sm.trans sm, x.hx⟩
def Ev (C : Cx) (F : Fm) (m : Str → Option Value) (σ : Sg) {α : Type} (t : Sem α) (Q : α → Sg → Prop) : Prop :=
  ∀ (P : α → Shared → Prop) (E : Value → Shared → Prop), (∀ x σ', Q x σ' → Rel C F m σ' → Nx (· = F.L) σ σ' → P x σ'.s) → wpAny C.M F.A t P E σ.s
variable {α β : Type}
end
structure ProgOk (K : Frag) (G : RProg) : Prop where
  fn : ∀ x d, G.funs.lookup x = some d → ∃ f, nsIn K mainGlobals (Str.ofString x) = some (some (.ref f)) ∧ mtFn K G.tabs f (Str.ofString x) d = true
  cl : ∀ c ms, G.clss.lookup c = some ms → ∃ k, nsIn K mainGlobals (Str.ofString c) = some (some (.ref k)) ∧ makesIn K k = true ∧ hasDictIn K k = true ∧ keepIn K (.ref k) = true ∧
    (plainGet K k (Str.ofString c) = true ∧ findIn K (.ref k) "__setattr__" = some (some (.builtin "object.__setattr__")) ∧ plainOver K k = true ∧
      ∀ x ∈ ms.attrs, ∃ attr, findIn K (.ref k) (Str.ofString x) = some attr ∧ noGet K attr = true ∧ takerIn K k (Str.ofString x) = some none) ∧
    ∀ m d, ms.ms.lookup m = some d → ∃ f, findIn K (.ref k) (Str.ofString m) = some (some (.ref f)) ∧ isFn K (.ref f) = true ∧ mtFn K G.tabs f (Str.ofString c ++ "." ++ Str.ofString m) d = true
  vl : ∀ x v, G.vals.lookup x = some v → ∃ u, nsIn K mainGlobals (Str.ofString x) = some (some u) ∧ mtV K 4 u v = true
  bi : ∀ x ∈ biNames, nsIn K mainGlobals (Str.ofString x) = some none
  ty : ∀ x ∈ tyNames, nsIn K mainGlobals (Str.ofString x) = some none
theorem lookup_mem {α β : Type} [BEq α] [LawfulBEq α] {x : α} {v : β} : ∀ {l : List (α × β)}, l.lookup x = some v → (x, v) ∈ l
  | [], h => by cases h
  | (y, u) :: r, h => by
    rw [List.lookup_cons] at h
    cases hq : x == y with
    | true => rw [hq] at h; cases h; rw [eq_of_beq hq]; exact .head _
    | false => rw [hq] at h; exact .tail _ (lookup_mem h)
set_option tactic.hygienic true in
theorem progOk {K : Frag} {G : RProg} (h : mtProg K G = true) : ProgOk K G := by
  refine ob_A (an h) fun h h5 => ?_
  refine ob_A (an h) fun h h4 => ?_
  refine ob_A (an h) fun h h3 => ?_
  refine ob_A (an h) fun h1 h2 => ?_
  refine ⟨fun x d e => ?_, fun c ms e => ?_, fun x v e => ?_, fun x hx => eq_of_beq (List.all_eq_true.mp h3 _ hx), fun x hx => eq_of_beq (List.all_eq_true.mp h4 _ hx)⟩
  · have := List.all_eq_true.mp h1 _ (lookup_mem e)
    dsimp only at this
    split at this
    · rename_i f hf; exact ⟨f, hf, this⟩
    · cases this
  · have := List.all_eq_true.mp h2 _ (lookup_mem e)
    dsimp only at this
    split at this
    · rename_i k hk
      refine ob_A (an this) fun this k8 => ?_
      refine ob_A (an this) fun this k7 => ?_
      refine ob_A (an this) fun this k6 => ?_
      refine ob_A (an this) fun this k5 => ?_
      refine ob_A (an this) fun this k4 => ?_
      refine ob_A (an this) fun this k3 => ?_
      refine ob_A (an this) fun k1 k2 => ?_
      refine ⟨k, hk, k1, k2, k3, ⟨k4, eq_of_beq k5, k6, fun x hx => ?_⟩, fun m d e' => ?_⟩
      · have := List.all_eq_true.mp k7 _ hx
        try dsimp only at this
        split at this
        · rename_i attr ha
          exact ⟨attr, ha, (an this).1, eq_of_beq (an this).2⟩
        · cases this
      · have := List.all_eq_true.mp k8 _ (lookup_mem e')
        dsimp only at this
        split at this
        · rename_i f hf
          exact ⟨f, hf, an this⟩
        · cases this
    · cases this
  · have := List.all_eq_true.mp h5 _ (lookup_mem e)
    dsimp only at this
    split at this
    · rename_i u hu; exact ⟨u, hu, this⟩
    · cases this
structure ActK (C : Cx) (F : Fm) (k : Nat) : Prop where
  bel : ∃ A₀ base outer, Below A₀ base outer F.h₀ ∧ F.A.frames = some (F.env :: outer)
  frm : F.env.frame = some F.L
  knd : F.env.scope.kind = .function
  gen : F.env.scope.isGenerator = false
  cor : F.env.scope.isCoroutine = false
  gl : F.env.globals = mainGlobals
  bl : F.env.builtins = builtinsNs
  X : C.K.In F.h₀
  T : TopRead C.p C.loose C.mg C.mb F.h₀
  sr : F.h₀.NoSeer
  tr : C.prog.given.tree = none
  hd : F.A.handled = none
  dep : F.A.depth + 40 * F.n + 20 * F.d + 115 + k < recursionLimit
  uni : F.A.units + 100 * F.n + 50 * F.d + 195 + k < cLine
  O : ProgOk C.K C.G
  Z : FdOk C
  bm : ∀ P ∈ C.G.tabs, F.h₀.BuiltinsAt C.mg P
abbrev Act (C : Cx) (F : Fm) : Prop := ActK C F 5
structure Vm where
  env : Env
  ns : Ns
  mL : Str → Option Value
  loc : Loc
def Std (F : Fm) (σ : Sg) (a : Addr) (o : Obj) : Prop := a ∉ σ.own ∧ a ≠ F.L ∧ σ.h.get? a = some o
structure EnvOk (C : Cx) (F : Fm) (V : Vm) (m : Str → Option Value) (σ : Sg) : Prop where
  knd : V.env.scope.kind = .function
  gl : V.env.globals = mainGlobals
  bl : V.env.builtins = builtinsNs
  frm : V.env.frame = some F.L
  kin : ∀ x k, V.ns.lookup x = some k → k ≠ .globalExplicit → V.env.kindOf x = some k ∨ (k = .free ∧ V.env.kindOf x = some .cell)
  cel : ∀ x, (V.ns.lookup x = some .cell ∨ V.ns.lookup x = some .free) → ∃ c, V.env.cells.lookup x = some c
  tab : ∀ t, V.ns.lookup (tabName t) = some .globalExplicit → F.d = 1 ∧ V.env.scope.isGenerator = false ∧ ∃ c P, V.env.code = .ref c ∧ CodeHd F.h₀ c P ∧ C.G.tabs[t]? = some P
  at_ : (V.env.locals = F.L ∧ V.mL = m) ∨ ∃ o es ep, Std F σ V.env.locals o ∧ o.data = .dict es ep ∧ StrKeys es ∧ ∀ name, nsFind es name = V.mL name
def LRel (C : Cx) (F : Fm) (V : Vm) (σ : Sg) : Prop :=
  ∀ x v, V.loc.lookup x = some v →
    (V.env.kindOf (Str.ofString x) = some .local → Str.ofString x ≠ (".0" : Str) → ∃ u, V.mL (Str.ofString x) = some u ∧ VRel C σ v u) ∧
    (V.env.kindOf (Str.ofString x) = some .cell ∨ V.env.kindOf (Str.ofString x) = some .free → ∃ c o u, V.env.cells.lookup (Str.ofString x) = some c ∧ Std F σ c o ∧ o.data = .cell (some u) ∧ VRel C σ v u)
structure Now (C : Cx) (F : Fm) (V : Vm) (m : Str → Option Value) (σ : Sg) : Prop where
  a : Act C F
  e : EnvOk C F V m σ
  l : LRel C F V σ
  r : Rel C F m σ
abbrev NL (F : Fm) : Addr → Prop := (· = F.L)
section
variable {C : Cx} {F : Fm} {V : Vm} {m : Str → Option Value} {σ σ' : Sg}
theorem Std.step {a : Addr} {o : Obj} (s : Std F σ a o) (x : Nx (NL F) σ σ') : Std F σ' a o := ⟨x.off s.1 s.2.2, s.2.1, x.frm a o s.1 (fun q => absurd q s.2.1) s.2.2⟩
theorem EnvOk.step (e : EnvOk C F V m σ) (x : Nx (NL F) σ σ') : EnvOk C F V m σ' :=
  ⟨e.knd, e.gl, e.bl, e.frm, e.kin, e.cel, e.tab, e.at_.imp id fun ⟨o, es, ep, s, r⟩ => ⟨o, es, ep, s.step x, r⟩⟩
theorem LRel.step (l : LRel C F V σ) (x : Nx (NL F) σ σ') : LRel C F V σ' := fun y v e =>
  ⟨fun k d => let ⟨u, a, b⟩ := (l y v e).1 k d; ⟨u, a, b.mono x.carry⟩, fun k => let ⟨c, o, u, a, b, d, r⟩ := (l y v e).2 k; ⟨c, o, u, a, b.step x, d, r.mono x.carry⟩⟩
theorem Now.step (N : Now C F V m σ) (r : Rel C F m σ') (x : Nx (NL F) σ σ') : Now C F V m σ' := ⟨N.a, N.e.step x, N.l.step x, r⟩
theorem Rel.nsAt (r : Rel C F m σ) (e : EnvOk C F V m σ) : σ.h.Ns V.env.locals V.mL := by
  rcases e.at_ with ⟨a, b⟩ | ⟨o, es, ep, s, d, k, f⟩
  · rw [a, b]; exact r.fr.ns
  · exact ⟨o, es, ep, s.2.2, d, k, f⟩
theorem Act.inK (a : Act C F) (r : Rel C F m σ) : C.K.In σ.h := a.X.keeps r.fr.keep
abbrev EP (C : Cx) (Q : PV) : Value → Sg → Prop := fun u σ' => ∃ v, Q v σ'.H ∧ VRel C σ' v u
abbrev BP (Q : PB) : Bool → Sg → Prop := fun b σ' => Q b σ'.H
abbrev LP (C : Cx) (Q : PL) : List Value → Sg → Prop := fun us σ' => ∃ vs, Q vs σ'.H ∧ VsRel C σ' vs us
def EvOk (C : Cx) (U : UTy) (n : Nat) (e : Expr) (r : RE) : Prop := ∀ {F : Fm} {V : Vm} {m : Str → Option Value} {σ : Sg} {Q : PV},
  F.n = n → mtE V.ns e r = true → Now C F V m σ → wpE C.G U r V.loc σ.H Q → Ev C F m σ (eval e V.env) (EP C Q)
def TsOk (C : Cx) (U : UTy) (n : Nat) (e : Expr) (r : RE) : Prop := ∀ {F : Fm} {V : Vm} {m : Str → Option Value} {σ : Sg} {Q : PB},
  F.n = n → mtE V.ns e r = true → Now C F V m σ → wpT C.G U r (fun l H' Q' => wpE C.G U r l H' Q') V.loc σ.H Q → Ev C F m σ (isTrue e V.env (eval e V.env)) (BP Q)
def UOk (C : Cx) (U : UTy) (n : Nat) : Prop :=
  ∀ {F : Fm} {m : Str → Option Value} {σ : Sg} {Q : PV} {d : RFn} {f : Addr} {qual : Str} {args : List RV} {vals : List Value} {R : Result → Shared → Prop},
    F.n = n → ActK C F 0 → mtFn C.K C.G.tabs f qual d = true → VsRel C σ args vals → Rel C F m σ → U d args σ.H Q →
    (∀ u σ', EP C Q u σ' → Rel C F m σ' → Nx (NL F) σ σ' → R (.ok (.ret u)) σ'.s) → codeAny C.M F.A (.call (.ref f) ⟨vals, []⟩) R σ.s
theorem Ev.tok {Q : PV} {v : RV} {u : Value} (r : Rel C F m σ) (q : Q v σ.H) (hv : VRel C σ v u) {k : Nat} {P : Value → Shared → Prop} (hP : ∀ x σ', EP C Q x σ' → Rel C F m σ' → Nx (NL F) σ σ' → P x σ'.s) : P u { σ.s with toks := k } :=
  hP u (σ.at { σ.s with toks := k }) ⟨v, q, hv.mono (keep_carry (s' := { σ.s with toks := k }) fun z_ z_ g => g)⟩ (r.keep fun z_ z_ g => g) (Nx.keep (fun z_ z_ g => g) (Sm.refl _))
theorem Ev.same {Q : PV} {v : RV} {u : Value} (r : Rel C F m σ) (q : Q v σ.H) (hv : VRel C σ v u) {P : Value → Shared → Prop} (hP : ∀ x σ', EP C Q x σ' → Rel C F m σ' → Nx (NL F) σ σ' → P x σ'.s) : P u σ.s :=
  hP u σ ⟨v, q, hv⟩ r (Nx.refl _)
theorem ev_const {U : UTy} {n : Nat} {e : Expr} {v : RV} : EvOk C U n e (.const v) := by
  intro F V m σ Q hn hm N hw P E hP
  (refine ob_EEEA (inv_const hm) fun c k p o1_ h => ?_; subst o1_)
  cases v with
  | none => cases c <;> first | exact absurd h Bool.false_ne_true | exact wpAny_Constant_none (Ev.same N.r hw .none hP)
  | bool b => cases c <;> first | exact absurd h Bool.false_ne_true | (rw [show _ = b from eq_of_beq h]; exact wpAny_Constant_bool (Ev.same N.r hw (.bool _) hP))
  | int i => cases c <;> first | exact absurd h Bool.false_ne_true | (rw [show _ = i from of_decide_eq_true h]; exact wpAny_Constant_int (Ev.tok N.r hw (.int _ _) hP))
  | str x => cases c <;> first | exact absurd h Bool.false_ne_true | (rw [show _ = x from eq_of_beq h]; exact wpAny_Constant_str (Ev.tok N.r hw (.str _ _) hP))
  | _ => exact absurd h Bool.false_ne_true
end
theorem opt_of {α : Type} {o : Option α} {k : α → Prop} (h : optwp o k) : ∃ x, o = some x ∧ k x := by
  cases o with
  | none => exact h.elim
  | some x => exact ⟨x, rfl, h⟩
theorem bind_of {α β : Type} {o : Option α} {k : α → Option β} {y : β} (h : o.bind k = some y) : ∃ x, o = some x ∧ k x = some y := Option.bind_eq_some_iff.mp h
theorem nos {α : Type} {x : α} {p : Prop} (h : none = some x) : p := by cases h
theorem if_of {c : Prop} [Decidable c] {α : Type} {x y : α} (h : (if c then some x else none) = some y) : c ∧ x = y := by
  by_cases hc : c
  · rw [if_pos hc] at h; cases h; exact ⟨hc, rfl⟩
  · rw [if_neg hc] at h; cases h
theorem vNone_of {v : Value} (h : vNone v = true) : v = .none := by cases v <;> first | rfl | exact absurd h Bool.false_ne_true
theorem vBool_of {v : Value} {x : Bool} (h : vBool v = some x) : v = .bool x := by cases v <;> first | exact nos h | (cases h; rfl)
theorem vRef_of {v : Value} {x : Addr} (h : vRef v = some x) : v = .ref x := by cases v <;> first | exact nos h | (cases h; rfl)
theorem vStr_of {v : Value} {x : Str} (h : vStr v = some x) : ∃ t, v = .str x t := by cases v <;> first | exact nos h | (cases h; exact ⟨_, rfl⟩)
theorem vInt_of {v : Value} {i : Int} (h : vInt v = some i) : ∃ t, v = .int i t := by cases v <;> first | exact nos h | (cases h; exact ⟨_, rfl⟩)
set_option tactic.hygienic true in
theorem dctOf_is {o : Obj} {d : List DictEntry × Nat} (h : dctOf o = some d) : o = dctO d.1 d.2 := by
  obtain ⟨c, di, da, sl⟩ := o
  cases da <;> first | exact nos h | skip
  rename_i es k
  have h : (if c == .type "dict" && di.isNone && sl.isEmpty then some (es.toList, k) else none) = some d := h
  by_cases hc : (c == .type "dict" && di.isNone && sl.isEmpty) = true
  · rw [if_pos hc] at h
    refine ob_A (an hc) fun h1 h3 => ?_
    refine ob_A (an h1) fun h1 h2 => ?_
    have e1 := eq_of_beq h1
    have e2 : di = none := Option.isNone_iff_eq_none.mp h2
    have e3 : sl = #[] := Array.isEmpty_iff.mp h3
    subst e1; subst e2; subst e3
    cases h
    rfl
  · rw [if_neg hc] at h; exact nos h
set_option tactic.hygienic true in
theorem tupOf_is {o : Obj} {d : List Value × Nat} (h : tupOf o = some d) : o = tupO d.1 d.2 := by
  obtain ⟨c, di, da, sl⟩ := o
  cases da <;> first | exact nos h | skip
  rename_i es k
  have h : (if c == .type "tuple" && di.isNone && sl.isEmpty then some (es.toList, k) else none) = some d := h
  by_cases hc : (c == .type "tuple" && di.isNone && sl.isEmpty) = true
  · rw [if_pos hc] at h
    refine ob_A (an hc) fun h1 h3 => ?_
    refine ob_A (an h1) fun h1 h2 => ?_
    have e1 := eq_of_beq h1
    have e2 : di = none := Option.isNone_iff_eq_none.mp h2
    have e3 : sl = #[] := Array.isEmpty_iff.mp h3
    subst e1; subst e2; subst e3
    cases h
    rfl
  · rw [if_neg hc] at h; exact nos h
theorem dctIn_of {K : Frag} {a : Addr} {d : List DictEntry × Nat} (h : dctIn K a = some d) : K.lookup a = some (dctO d.1 d.2) := by
  cases e : K.lookup a with
  | none => unfold dctIn at h; rw [e] at h; exact nos h
  | some o =>
    have h : dctOf o = some d := by rw [← h]; unfold dctIn; rw [e]; rfl
    exact congrArg some (dctOf_is h)
theorem tupIn_of {K : Frag} {a : Addr} {d : List Value × Nat} (h : tupIn K a = some d) : K.lookup a = some (tupO d.1 d.2) := by
  cases e : K.lookup a with
  | none => unfold tupIn at h; rw [e] at h; exact nos h
  | some o =>
    have h : tupOf o = some d := by rw [← h]; unfold tupIn; rw [e]; rfl
    exact congrArg some (tupOf_is h)
section
variable {C : Cx} {F : Fm} {V : Vm} {m : Str → Option Value} {σ σ' : Sg} {U : UTy} {n : Nat}
theorem VsRel_zip {P : Value → RV → Bool} (hP : ∀ u v, P u v = true → VRel C σ v u) : ∀ (vs : List Value) (us : List RV), vs.length = us.length → ((vs.zip us).all fun p => P p.1 p.2) = true → VsRel C σ us vs
  | [], [], _, _ => .nil
  | v :: vs, u :: us, hl, h => by
    rw [List.zip_cons_cons, List.all_cons] at h
    exact .cons (hP _ _ (an h).1) (VsRel_zip hP vs us (by simpa using hl) (an h).2)
  | [], _ :: _, hl, _ => by cases hl
  | _ :: _, [], hl, _ => by cases hl
theorem VRel_of_mtV0 {u : Value} {v : RV} (h : mtV0 C.K u v = true) : VRel C σ v u := by
  cases v with
  | none => rw [vNone_of h]; exact .none
  | bool b => rw [vBool_of (eq_of_beq h)]; exact .bool b
  | int i => (refine ob_E (vInt_of (eq_of_beq h)) fun t o1_ => ?_; subst o1_); exact .int i t
  | str s => (refine ob_E (vStr_of (eq_of_beq h)) fun t o1_ => ?_; subst o1_); exact .str s t
  | fn x =>
    cases hr : vRef u with
    | none => rw [show mtV0 C.K u (.fn x) = (match vRef u with | some a => nsIn C.K mainGlobals (Str.ofString x) == some (some (.ref a)) | none => false) from rfl, hr] at h; cases h
    | some a => rw [show mtV0 C.K u (.fn x) = (match vRef u with | some a => nsIn C.K mainGlobals (Str.ofString x) == some (some (.ref a)) | none => false) from rfl, hr] at h; rw [vRef_of hr]; exact .fn (eq_of_beq h)
  | fdict es =>
    cases hr : vRef u with
    | none => rw [show mtV0 C.K u (.fdict es) = (match vRef u with | some a => fdOk C.K a es | none => false) from rfl, hr] at h; cases h
    | some a =>
      rw [show mtV0 C.K u (.fdict es) = (match vRef u with | some a => fdOk C.K a es | none => false) from rfl, hr] at h
      refine ob_A (an h) fun h1 h2 => ?_
      cases hd : dctIn C.K a with
      | none => rw [hd] at h2; cases h2
      | some d =>
        rw [hd] at h2
        refine ob_A (an h2) fun h2 h4 => ?_
        refine ob_A (an h2) fun h2 h3 => ?_
        rw [vRef_of hr]
        exact .fdict (eq_of_beq h1) (dctIn_of hd) h2 (of_decide_eq_true h3) (Bool.not_eq_true' _ |>.mp h4)
  | _ => exact absurd h Bool.false_ne_true
theorem VRel_of_mtV : ∀ (n : Nat) {u : Value} {v : RV}, mtV C.K n u v = true → VRel C σ v u := by
  intro n
  induction n with
  | zero => exact fun h => VRel_of_mtV0 h
  | succ n ih =>
    intro u v h
    cases v with
    | tup us =>
      have h : (match (vRef u).bind (tupIn C.K) with
        | some d => decide (d.1.length = us.length) && (d.1.zip us).all fun p => mtV C.K n p.1 p.2
        | none => false) = true := h
      cases hr : vRef u with
      | none => rw [hr] at h; cases h
      | some a =>
        rw [hr, Option.bind_some] at h
        cases hd : tupIn C.K a with
        | none => rw [hd] at h; cases h
        | some d =>
          rw [hd] at h
          rw [vRef_of hr]
          exact .ktup (tupIn_of hd) (VsRel_zip (fun u v => ih) _ _ (of_decide_eq_true (an h).1) (an h).2)
    | _ => exact VRel_of_mtV0 h
theorem ev_loc {e : Expr} {x : String} : EvOk C U n e (.loc x) := by
  intro F V m σ Q hn hm N hw P E hP
  (refine ob_EAA (inv_loc hm) fun pos o1_ hx hb => ?_; subst o1_)
  refine ob_EA (opt_of (show optwp (V.loc.lookup x) (fun v => Q v σ.H) from hw)) fun v hv hw => ?_
  · simp only [dbg, Bool.or_eq_false_iff] at hb
    have cellCase : (V.env.kindOf (Str.ofString x) = some .cell ∨ V.env.kindOf (Str.ofString x) = some .free) → wpAny C.M F.A (eval (.Name (Str.ofString x) pos) V.env) P E σ.s := fun hc => by
      refine ob_EEEAAA ((N.l x v hv).2 hc) fun c o u h1 h2 h3 h4 => ?_
      have hcell : σ.h.IsCell c (some u) := ⟨o, h2.2.2, h3⟩
      rcases hc with hc | hc
      · exact wpAny_Name (wpAny_loadName_cell N.e.knd hc h1 hcell (Ev.same N.r hw h4 hP)) hb.1.1
      · exact wpAny_Name (wpAny_loadName_free N.e.knd hc h1 hcell (Ev.same N.r hw h4 hP) hb.1.2) hb.1.1
    cases hk : V.ns.lookup (Str.ofString x) with
    | none => rw [hk] at hx; exact absurd hx Bool.false_ne_true
    | some k =>
      rw [hk] at hx
      rcases N.e.kin _ _ hk (fun e => by rw [e] at hx; exact absurd hx Bool.false_ne_true) with kin | ⟨rfl, kin⟩
      · cases k with
        | «local» =>
          refine ob_EA ((N.l x v hv).1 kin (by simpa using hb.2)) fun u h1 h2 => ?_
          exact wpAny_Name (wpAny_loadName_local N.e.knd kin (N.r.nsAt N.e) h1 (Ev.same N.r hw h2 hP)) hb.1.1
        | cell => exact cellCase (.inl kin)
        | free => exact cellCase (.inr kin)
        | globalExplicit => exact absurd hx Bool.false_ne_true
        | globalImplicit => exact absurd hx Bool.false_ne_true
      · exact cellCase (.inl kin)
theorem boot_bi : ∀ x ∈ biNames, bootBuiltins (Str.ofString x) = some (.builtin x) := by decide +kernel
theorem boot_ty : ∀ x ∈ tyNames, bootBuiltins (Str.ofString x) = some (.type x) := by decide +kernel
theorem ne_name_bi : ∀ x ∈ biNames ++ tyNames, Str.ofString x ≠ ("__name__" : Str) := by decide +kernel
theorem glob_is {x : String} {v : RV} (O : ProgOk C.K C.G) (h : globR C.G x = some v) :
    (∃ u, nsIn C.K mainGlobals (Str.ofString x) = some (some u) ∧ ∀ σ, VRel C σ v u) ∨
    (∃ u, nsIn C.K mainGlobals (Str.ofString x) = some none ∧ bootBuiltins (Str.ofString x) = some u ∧ Str.ofString x ≠ ("__name__" : Str) ∧ ∀ σ, VRel C σ v u) := by
  have h : (if (C.G.funs.lookup x).isSome then some (.fn x) else if (C.G.clss.lookup x).isSome then some (.cls x) else globR2 C.G x) = some v := h
  by_cases h1 : (C.G.funs.lookup x).isSome = true
  · rw [if_pos h1] at h
    cases h
    refine ob_E (Option.isSome_iff_exists.mp h1) fun d hd => ?_
    refine ob_EA (O.fn x d hd) fun f hf z_ => ?_
    exact .inl ⟨_, hf, fun σ => .fn hf⟩
  rw [if_neg h1] at h
  by_cases h2 : (C.G.clss.lookup x).isSome = true
  · rw [if_pos h2] at h
    cases h
    refine ob_E (Option.isSome_iff_exists.mp h2) fun d hd => ?_
    refine ob_EA (O.cl x d hd) fun f hf z_ => ?_
    exact .inl ⟨_, hf, fun σ => .cls hf⟩
  rw [if_neg h2] at h
  cases hv : C.G.vals.lookup x with
  | some v' =>
    have h : some v' = some v := by rw [← h]; unfold globR2; rw [hv]
    cases h
    refine ob_EA (O.vl x v hv) fun u hu hm => ?_
    exact .inl ⟨u, hu, fun σ => VRel_of_mtV 4 hm⟩
  | none =>
    have h : (if biNames.contains x then some (.bi x) else if tyNames.contains x then some (.ty x) else none) = some v := by rw [← h]; unfold globR2; rw [hv]
    by_cases h3 : biNames.contains x = true
    · rw [if_pos h3] at h
      cases h
      have hm : x ∈ biNames := List.contains_iff_mem.mp h3
      exact .inr ⟨_, O.bi x hm, boot_bi x hm, ne_name_bi x (List.mem_append.mpr (.inl hm)), fun σ => .bi x⟩
    rw [if_neg h3] at h
    by_cases h4 : tyNames.contains x = true
    · rw [if_pos h4] at h
      cases h
      have hm : x ∈ tyNames := List.contains_iff_mem.mp h4
      exact .inr ⟨_, O.ty x hm, boot_ty x hm, ne_name_bi x (List.mem_append.mpr (.inr hm)), fun σ => .ty x⟩
    rw [if_neg h4] at h
    exact nos h
theorem ev_glb {e : Expr} {x : String} : EvOk C U n e (.glb x) := by
  intro F V m σ Q hn hm N hw P E hP
  (refine ob_EAA (inv_glb hm) fun pos o1_ hx hb => ?_; subst o1_)
  refine ob_EA (opt_of (show optwp (globR C.G x) (fun v => Q v σ.H) from hw)) fun v hg hw => ?_
  simp only [dbg, Bool.or_eq_false_iff] at hb
  have kin : V.env.kindOf (Str.ofString x) = some .globalImplicit := by
    rcases N.e.kin _ _ hx (fun e => by cases e) with h | ⟨h, _⟩
    · exact h
    · cases h
  · rcases glob_is N.a.O hg with ⟨u, h1, h2⟩ | ⟨u, h1, h3, h4, h2⟩
    · refine Name_function_global N.e.knd kin (loadGlobal_global (mg := C.mg) ?_ (mg_of N.a.X N.a.T.g h1) (Ev.same N.r hw (h2 σ) hP)) hb.1.1
      rw [N.e.gl]; exact N.a.T.g.keeps N.r.fr.keep
    · refine Name_function_global N.e.knd kin (loadGlobal_builtin (mg := C.mg) (mb := C.mb) ?_ (mg_none_of N.a.X N.a.T.g h1) ?_ ((N.a.T.builtins _ h4).trans h3) (Ev.same N.r hw (h2 σ) hP)) hb.1.1
      · rw [N.e.gl]; exact N.a.T.g.keeps N.r.fr.keep
      · rw [N.e.bl]; exact N.a.T.b.keeps N.r.fr.keep
end
end Mine
namespace Mine
open PySem PySem.W PySem.Calls PyProof.Rows PySem.SeqAt
theorem asI_of {v : RV} {i : Int} (h : asI v = some i) : v = .int i := by cases v <;> first | exact nos h | (cases h; rfl)
theorem asS_of {v : RV} {x : Str} (h : asS v = some x) : v = .str x := by cases v <;> first | exact nos h | (cases h; rfl)
theorem asR_of {v : RV} {i : Nat} (h : asR v = some i) : v = .ref i := by cases v <;> first | exact nos h | (cases h; rfl)
theorem asT_of {v : RV} {l : List RV} (h : asT v = some l) : v = .tup l := by cases v <;> first | exact nos h | (cases h; rfl)
theorem asRg_of {v : RV} {l : Int × Int × Int} (h : asRg v = some l) : v = .rng l.1 l.2.1 l.2.2 := by cases v <;> first | exact nos h | (cases h; rfl)
theorem asL_of {o : RO} {l : List RV} (h : asL o = some l) : o = .list l := by cases o <;> first | exact nos h | (cases h; rfl)
theorem asSt_of {o : RO} {l : List (Int × RV) × Nat × SetTable} (h : asSt o = some l) : o = .set l.1 l.2.1 l.2.2 := by cases o <;> first | exact nos h | (cases h; rfl)
theorem asO_of {o : RO} {l : String × List (String × RV)} (h : asO o = some l) : o = .inst l.1 l.2 := by cases o <;> first | exact nos h | (cases h; rfl)
theorem obAt_of {H : RH} {v : RV} {p : Nat × RO} (h : obAt H v = some p) : v = .ref p.1 ∧ H[p.1]? = some p.2 := by
  refine ob_EA (bind_of h) fun i hr h => ?_
  refine ob_EA (bind_of h) fun o ho h => ?_
  cases h
  exact ⟨asR_of hr, ho⟩
theorem at_of {α : Type} {H : RH} {v : RV} {f : RO → Option α} {p : Nat × α} (h : atBy f H v = some p) : ∃ o, v = .ref p.1 ∧ H[p.1]? = some o ∧ f o = some p.2 := by
  refine ob_EA (bind_of h) fun q hr h => ?_
  refine ob_EA (bind_of h) fun o ho h => ?_
  cases h
  exact ⟨q.2, (obAt_of hr).1, (obAt_of hr).2, ho⟩
theorem lstAt_of {H : RH} {v : RV} {p : Nat × List RV} (h : lstAt H v = some p) : v = .ref p.1 ∧ H[p.1]? = some (.list p.2) := by
  refine ob_EAA (at_of (f := asL) h) fun o a b c => ?_
  exact ⟨a, asL_of c ▸ b⟩
theorem setAt_of {H : RH} {v : RV} {p : Nat × List (Int × RV) × Nat × SetTable} (h : setAt H v = some p) : v = .ref p.1 ∧ H[p.1]? = some (.set p.2.1 p.2.2.1 p.2.2.2) := by
  refine ob_EAA (at_of (f := asSt) h) fun o a b c => ?_
  exact ⟨a, asSt_of c ▸ b⟩
theorem insAt_of {H : RH} {v : RV} {p : Nat × String × List (String × RV)} (h : insAt H v = some p) : v = .ref p.1 ∧ H[p.1]? = some (.inst p.2.1 p.2.2) := by
  refine ob_EAA (at_of (f := asO) h) fun o a b c => ?_
  exact ⟨a, asO_of c ▸ b⟩
theorem int2_of {a b : RV} {k : Int → Int → Prop} (h : int2wp a b k) : ∃ x y, a = .int x ∧ b = .int y ∧ k x y := by
  refine ob_EA (opt_of h) fun x hx h => ?_
  refine ob_EA (opt_of h) fun y hy h => ?_
  exact ⟨x, y, asI_of hx, asI_of hy, h⟩
theorem adr_of {ad : List (List Addr)} {i : Nat} {a : Addr} {b : List Addr} (h : adr ad i = some a) (hb : ad[i]? = some b) : ∃ r, b = a :: r := by
  unfold adr at h
  rw [hb, Option.bind_some] at h
  cases b with
  | nil => cases h
  | cons x r => cases h; exact ⟨r, rfl⟩
section
variable {C : Cx} {F : Fm} {m : Str → Option Value} {σ σ' : Sg} {Q : PV} {P : Value → Shared → Prop}
theorem Rel.ob (r : Rel C F m σ) {i : Nat} {o : RO} {a : Addr} (e : σ.H[i]? = some o) (ha : adr σ.ad i = some a) : ∃ b, σ.ad[i]? = some (a :: b) ∧ ORel C σ o (a :: b) := by
  refine ob_EA (r.R i o e) fun b hb x => ?_
  (refine ob_E (adr_of ha hb) fun r' o1_ => ?_; subst o1_)
  exact ⟨r', hb, x⟩
theorem Rel.listAt (r : Rel C F m σ) {i : Nat} {us : List RV} {a : Addr} (e : σ.H[i]? = some (.list us)) (ha : adr σ.ad i = some a) : ∃ vs n, VsRel C σ us vs ∧ σ.ad[i]? = some [a] ∧ σ.h.get? a = some (lstO vs n) := by
  refine ob_EA (r.ob e ha) fun b hb x => ?_
  cases x with
  | list g x => exact ⟨_, _, x, hb, g⟩
theorem Rel.dictAt (r : Rel C F m σ) {i : Nat} {es : List (RV × RV)} {n : Nat} {a : Addr} (e : σ.H[i]? = some (.dict es n)) (ha : adr σ.ad i = some a) : ∃ ds, DsRel C σ es ds ∧ (ds.map fun e => strOf e.key).Nodup ∧ σ.ad[i]? = some [a] ∧ σ.h.get? a = some (dctO ds n) := by
  refine ob_EA (r.ob e ha) fun b hb x => ?_
  cases x with
  | dict g x d => exact ⟨_, x, d, hb, g⟩
theorem Rel.setAt (r : Rel C F m σ) {i : Nat} {es : List (Int × RV)} {n : Nat} {t : SetTable} {a : Addr} (e : σ.H[i]? = some (.set es n t)) (ha : adr σ.ad i = some a) : ∃ vs, σ.h.get? a = some (setO vs n { t with led := !(C.P.followText "set-order") }) ∧ SetRel C σ es vs ∧ t.fits vs.length = true ∧ σ.ad[i]? = some [a] := by
  refine ob_EA (r.ob e ha) fun b hb x => ?_
  cases x with
  | set g x f => exact ⟨_, g, x, f, hb⟩
theorem isList_of {h : Heap} {a : Addr} {vs : List Value} {n : Nat} (e : h.get? a = some (lstO vs n)) : h.IsList a vs.toArray := ⟨_, e, rfl, n, rfl⟩
theorem VRel.tup_at (hk : C.K.In σ.h) {us : List RV} {u : Value} (h : VRel C σ (.tup us) u) : ∃ a vs n, u = .ref a ∧ σ.h.get? a = some (tupO vs n) ∧ VsRel C σ us vs := by
  cases h with
  | tup i r => exact ⟨_, _, _, rfl, i.2, r⟩
  | ktup i r => exact ⟨_, _, _, rfl, hk _ _ i, r⟩
theorem push_keep {s : Shared} (o : Obj) : Keep s.heap ({ s with heap := s.heap.push o } : Shared).heap := fun a x g => Heap.get?_push_of_some o g
theorem Ev.push (r : Rel C F m σ) {o : Obj} (ho : o.isFreed = false) {v : RV} (q : Q v σ.H) (hv : ∀ σ', Carry σ σ' → Fz σ' σ.h.objs.size o → VRel C σ' v (.ref σ.h.objs.size)) {k : Nat}
    (hP : ∀ x σ', EP C Q x σ' → Rel C F m σ' → Nx (NL F) σ σ' → P x σ'.s) : P (.ref σ.h.objs.size) { σ.s with heap := σ.h.push o, toks := k } := by
  have hk : Keep σ.h ({ σ.s with heap := σ.h.push o, toks := k } : Shared).heap := push_keep o
  refine hP _ (σ.at { σ.s with heap := σ.h.push o, toks := k }) ⟨v, q, hv _ (keep_carry hk) ⟨fun h => Nat.lt_irrefl _ (r.lt h), Heap.get?_push_size _ ho⟩⟩ (r.keep hk) (Nx.keep hk ⟨rfl, rfl, rfl⟩)
theorem Ev.pushO (r : Rel C F m σ) {o : Obj} (ho : o.isFreed = false) {ro : RO} (q : Q (.ref σ.H.length) (σ.H ++ [ro])) {k : Nat}
    (hr : ∀ σ', Carry σ σ' → σ'.h.get? σ.h.objs.size = some o → ORel C σ' ro [σ.h.objs.size])
    (hP : ∀ x σ', EP C Q x σ' → Rel C F m σ' → Nx (NL F) σ σ' → P x σ'.s) : P (.ref σ.h.objs.size) { σ.s with heap := σ.h.push o, toks := k } := by
  have hk : Keep σ.h ({ σ.s with heap := σ.h.push o, toks := k } : Shared).heap := push_keep o
  have up : ∀ a ∈ [σ.h.objs.size], σ.h.objs.size ≤ a := fun a h => by rw [List.mem_singleton] at h; rw [h]; exact Nat.le_refl _
  refine hP _ (σ.new [σ.h.objs.size] ro { σ.s with heap := σ.h.push o, toks := k }) ⟨_, q, .ref (adr_new r _ _ _)⟩ (r.make hk (by simp) up (hr _ (make_carry hk up) (Heap.get?_push_size _ ho))) (Nx.make hk ⟨rfl, rfl, rfl⟩ up)
set_option tactic.hygienic true in
theorem small_bits {x : Int} (h : smallI x) : Builtin.Int.intBits x ≤ 64 := by
  unfold smallI at h
  unfold Builtin.Int.intBits
  split
  · omega
  · have hz : x.natAbs ≠ 0 := by
      intro h0
      rename_i hx
      have : x = 0 := by omega
      simp [this] at hx
    have := (Nat.log2_lt hz).mpr h
    omega
theorem tup_ok {us : List RV} {vs : List Value} (r : Rel C F m σ) (hv : VsRel C σ us vs) (hl : us.length ≤ sizeLine) (hw : Q (.tup us) σ.H) : Ev C F m σ (newTuple vs) (EP C Q) := fun P E hP =>
  wpAny_newObj_type (hd := by rw [hv.length] at hl; size_fits) (Ev.push r rfl hw (fun σ' c z => .tup (vs := vs) (n := 0) z (hv.mono c)) (k := σ.s.toks) hP)
theorem list_ok {us : List RV} {vs : List Value} (r : Rel C F m σ) (hv : VsRel C σ us vs) (hl : us.length ≤ sizeLine) (hw : Q (.ref σ.H.length) (σ.H ++ [.list us])) : Ev C F m σ (newList vs) (EP C Q) := fun P E hP =>
  wpAny_newObj_type (hd := by rw [hv.length] at hl; size_fits) (Ev.pushO r rfl hw (fun σ' c z => .list (vs := vs) (n := 0) z (hv.mono c)) (k := σ.s.toks) hP)
end
section
variable {C : Cx} {F : Fm} {m : Str → Option Value} {σ σ' : Sg} {Q : PV} {P : Value → Shared → Prop}
theorem Act.pylong (a : Act C F) (r : Rel C F m σ) : PylongRoom C.M F.A σ.s := by
  refine ob_EEEA (a.bel) fun A₀ base outer hB hA => ?_
  refine PylongRoom.of (a.T.nolimit.keeps r.fr.keep) ?_ (SeerAt.of (a.sr.keeps r.fr.keep) a.tr hA a.gen a.cor a.bl a.gl)
  have := a.dep
  show F.A.depth + 100 < recursionLimit
  omega
theorem bin_ok {op : Operator} {x y : RV} {u v : Value} (a : Act C F) (r : Rel C F m σ) (hx : VRel C σ x u) (hy : VRel C σ y v) (hw : binwp op x y σ.H Q) : Ev C F m σ (binaryOp op u v) (EP C Q) := by
  intro P E hP
  have i2 : ∀ {k : Int → Int → Prop}, int2wp x y k → ∃ i t j t', u = .int i t ∧ v = .int j t' ∧ k i j := fun h => by
    (refine ob_EEAA (int2_of h) fun i j o1_ o2_ h => ?_; subst o1_; subst o2_)
    (refine ob_E (hx.int_inv) fun t o1_ => ?_; subst o1_)
    (refine ob_E (hy.int_inv) fun t' o1_ => ?_; subst o1_)
    exact ⟨_, _, _, _, rfl, rfl, h⟩
  cases op <;> first | exact absurd hw id | skip
  · have hw : (match asI x with | some _ => int2wp x y fun i j => Q (.int (i + j)) σ.H | none => addSwp x y σ.H Q) := hw
    cases hi : asI x with
    | some i =>
      rw [hi] at hw
      (refine ob_EEEEAA (i2 hw) fun i t j t' o1_ o2_ h => ?_; subst o1_; subst o2_)
      exact _root_.PySem.P.add_int (Ev.tok r h (.int _ _) hP)
    | none =>
      rw [hi] at hw
      have hw : (match asS x with
        | some a => optwp (asS y) fun b => (a ++ b).length ≤ sizeLine ∧ Q (.str (a ++ b)) σ.H
        | none => optwp (lstAt σ.H x) fun p => optwp (lstAt σ.H y) fun q => (p.2 ++ q.2).length ≤ sizeLine ∧ Q (.ref σ.H.length) (σ.H ++ [.list (p.2 ++ q.2)])) := hw
      cases hs : asS x with
      | some a' =>
        rw [hs] at hw
        refine ob_EAA (opt_of hw) fun b hb h1 h2 => ?_
        rw [asS_of hs] at hx
        rw [asS_of hb] at hy
        (refine ob_E (hx.str_inv) fun t o1_ => ?_; subst o1_)
        (refine ob_E (hy.str_inv) fun t' o1_ => ?_; subst o1_)
        refine add_str (fun t₁ t₂ => Ev.tok r h2 (.str _ _) hP) ?_
        rw [Str.length_append] at h1
        exact h1
      | none =>
        rw [hs] at hw
        refine ob_EA (opt_of hw) fun p hp hw => ?_
        refine ob_EAA (opt_of hw) fun q hq h1 h2 => ?_
        refine ob_A (lstAt_of hp) fun e1 g1 => ?_
        refine ob_A (lstAt_of hq) fun e2 g2 => ?_
        subst e1; subst e2
        (refine ob_EA (hx.ref_inv) fun b1 o1_ a1 => ?_; subst o1_)
        (refine ob_EA (hy.ref_inv) fun b2 o1_ a2 => ?_; subst o1_)
        refine ob_EEAA (r.listAt g1 a1) fun vs n1 R1 z_ k1 => ?_
        refine ob_EEAA (r.listAt g2 a2) fun ws n2 R2 z_ k2 => ?_
        refine _root_.PySem.P.add_list k1 k2 ?_ (by rw [List.length_append, R1.length, R2.length] at h1; simpa using h1)
        have e : vs.toArray ++ ws.toArray = (vs ++ ws).toArray := by simp
        rw [e]
        exact Ev.pushO r rfl h2 (k := σ.s.toks) (fun σ' c z => .list z ((R1.mono c).append (R2.mono c))) hP
  · (refine ob_EEEEAA (i2 hw) fun i t j t' o1_ o2_ h => ?_; subst o1_; subst o2_)
    exact _root_.PySem.P.sub_int (Ev.tok r h (.int _ _) hP)
  · (refine ob_EEEEAA (i2 hw) fun i t j t' o1_ o2_ h => ?_; subst o1_; subst o2_)
    exact _root_.PySem.P.mul_int (Ev.tok r h.2.2 (.int _ _) hP) (IntMulOk.of_left (small_bits h.1))
  · (refine ob_EEEEAA (i2 hw) fun i t j t' o1_ o2_ h => ?_; subst o1_; subst o2_)
    exact mod_int' h.1 (Ev.tok r h.2 (.int _ _) hP)
  · (refine ob_EEEEAA (i2 hw) fun i t j t' o1_ o2_ h => ?_; subst o1_; subst o2_)
    exact floordiv_int h.1 (Ev.tok r h.2 (.int _ _) hP) (.inr (a.pylong r))
end
theorem probe_led (t : SetTable) (b : Bool) (f : Nat → Int) (h : Int) (p : SetTable.Probe) : ({ t with led := b } : SetTable).probe f h p = t.probe f h p := by
  have go : ∀ (n : Nat) (p : SetTable.Probe), SetTable.probe.go { t with led := b } f h n p = SetTable.probe.go t f h n p := by
    intro n
    induction n with
    | zero => intro p; rfl
    | succ n ih =>
      intro p
      show (match t.slot p.j with | .empty => _ | .dummy => SetTable.probe.go { t with led := b } f h n (t.advance { p with dummy := some p.j }) | .live i => if f i == h then _ else SetTable.probe.go { t with led := b } f h n (t.advance p)) = (match t.slot p.j with | .empty => _ | .dummy => SetTable.probe.go t f h n (t.advance { p with dummy := some p.j }) | .live i => if f i == h then _ else SetTable.probe.go t f h n (t.advance p))
      rw [ih, ih]; rfl
  exact go _ p
section
variable {C : Cx} {F : Fm} {m : Str → Option Value} {σ σ' : Sg} {P : Value → Shared → Prop} {E : Value → Shared → Prop}
abbrev ledO (C : Cx) (t : SetTable) : SetTable := { t with led := !(C.P.followText "set-order") }
abbrev TupI (C : Cx) (h : Heap) (l : List Int) (a : Addr) : Prop := IsTupleKey (intKind C.prog C.w) h l a
theorem intsP_of {us : List RV} : ∀ {l : List Int} {vs : List Value}, intsP us = some l → VsRel C σ us vs → ItemsAre (intKind C.prog C.w) l vs := by
  induction us with
  | nil =>
    intro l vs h r
    cases h; rw [r.nil_inv]; exact .nil
  | cons u us ih_ =>
    intro l vs h r
    have h : (match asI u with | some i => (intsP us).map (i :: ·) | none => none) = some l := h
    (refine ob_EEAA (r.cons_inv) fun v ws o1_ hv hr => ?_; subst o1_)
    cases hi : asI u with
    | none => rw [hi] at h; exact nos h
    | some i =>
      rw [hi] at h
      (refine ob_EA (Option.map_eq_some_iff.mp h) fun l' hl o1_ => ?_; subst o1_)
      rw [asI_of hi] at hv
      (refine ob_E (hv.int_inv) fun t o1_ => ?_; subst o1_)
      exact .cons (by simp [intKind, Value.isInt]) (ih_ hl hr)
theorem tupI_of (hk : C.K.In σ.h) {v : RV} {u : Value} {l : List Int} (h : tupI v = some l) (hv : VRel C σ v u) : ∃ a, u = .ref a ∧ TupI C σ.h l a := by
  refine ob_EA (bind_of h) fun us hu hl => ?_
  rw [asT_of hu] at hv
  (refine ob_EEEAA (hv.tup_at hk) fun a vs n o1_ g r => ?_; subst o1_)
  exact ⟨a, rfl, _, _, _, g, rfl, rfl, by simpa using intsP_of hl r⟩
theorem SetRel.hash {es : List (Int × RV)} {vs : List (Int × Value)} (r : SetRel C σ es vs) (i : Nat) : (vs.toArray[i]?.map (·.1)).getD 0 = storedH es i := by
  unfold storedH
  rw [List.getElem?_toArray]
  induction r generalizing i with
  | nil => rfl
  | cons _ _ _ ih => cases i with
    | zero => rfl
    | succ i => simpa using ih i
theorem SetRel.get {es : List (Int × RV)} {vs : List (Int × Value)} (r : SetRel C σ es vs) : ∀ {i : Nat} {e : Int × RV}, es[i]? = some e → ∃ v, vs[i]? = some (e.1, v) ∧ VRel C σ e.2 v := by
  induction r with
  | nil => intro i e h; simp at h
  | cons k x _ ih =>
    intro i e h
    cases i with
    | zero => simp at h; subst h; exact ⟨_, rfl, x⟩
    | succ i => simpa using ih (by simpa using h)
theorem SetRel.len {es : List (Int × RV)} {vs : List (Int × Value)} (r : SetRel C σ es vs) : es.length = vs.length := by
  induction r with
  | nil => rfl
  | cons _ _ _ ih => simp [ih]
theorem SetRel.keys (hk : C.K.In σ.h) {es : List (Int × RV)} {vs : List (Int × Value)} (r : SetRel C σ es vs) : ∀ v ∈ vs, ∃ l a, v.2 = .ref a ∧ TupI C σ.h l a := by
  induction r with
  | nil => intro v h; cases h
  | cons k x _ ih =>
    intro v h
    rcases List.mem_cons.mp h with rfl | h
    · refine ob_E (Option.isSome_iff_exists.mp k) fun l hl => ?_
      refine ob_EA (tupI_of hk hl x) fun a e t => ?_
      exact ⟨l, a, e, t⟩
    · exact ih v h
theorem notClass {l : List Int} {a : Addr} {A : Around} {s : Shared} {Q : Bool → Shared → Prop} (ht : TupI C s.heap l a) (h : Q false s) : wpAny C.M A (ofAClassStatement 8 (.ref a)) Q E s := by
  have hT := ht.typeIs
  (revert ht; refine ob_EEEAAAr fun o items n ho hc hd hi => ?_)
  unfold ofAClassStatement
  refine wpAny_bind (wpAny_typeOf hT ?_)
  dsimp only
  refine wpAny_bind ?_
  refine wpAny_pure ?_
  simp only [Bool.not_true, Bool.false_eq_true, if_false]
  refine wpAny_bind (wpAny_seqItems ho hd ?_)
  dsimp only
  refine wpAny_bind ?_
  rw [← Array.forIn_toList]
  refine wpAny_forIn_list _ (fun rest r s' => r.1 = none ∧ s' = s ∧ ∃ l, ItemsAre (intKind C.prog C.w) l rest) _ ?_ ?_ _ _ ⟨rfl, rfl, l, hi⟩
  · rintro v rest r s' ⟨hr, rfl, l, hl⟩
    cases hl with
    | cons h1 hl =>
      (refine ob_E (Value.isInt_shape h1) fun t o1_ => ?_; subst o1_)
      unfold ofAClassStatement
      refine wpAny_bind (wpAny_pure ?_)
      simp only [Bool.false_eq_true, if_false]
      exact wpAny_pure ⟨rfl, rfl, _, hl⟩
  · rintro ⟨r1, r2⟩ s' ⟨hr, rfl, _⟩
    simp only at hr
    subst hr
    exact wpAny_pure h
theorem notSeen {l : List Int} {a : Addr} {A : Around} {s : Shared} {ys : List Value} {Q : Bool → Shared → Prop} (ht : TupI C s.heap l a) (hy : ∀ y ∈ ys, ∃ l' b, y = .ref b ∧ TupI C s.heap l' b) (h : Q false s) :
    wpAny C.M A (searchCouldBeSeen (.ref a) ys) Q E s := by
  unfold searchCouldBeSeen
  refine wpAny_bind ?_
  refine wpAny_forIn_list _ (fun rest r s' => r.1 = none ∧ s' = s ∧ ∀ y ∈ rest, ∃ l' b, y = .ref b ∧ TupI C s.heap l' b) _ ?_ ?_ _ _ ⟨rfl, rfl, hy⟩
  · rintro v rest r s' ⟨hr, rfl, hl⟩
    (refine ob_EEA (hl v (.head _)) fun l' b o1_ hb => ?_; subst o1_)
    have rst : ∀ y ∈ rest, ∃ l' b, y = .ref b ∧ TupI C s'.heap l' b := fun y h => hl y (.tail _ h)
    dsimp only
    by_cases hab : ((a == b) || (carriedByValue (.ref a) && carriedByValue (.ref b))) = true
    · rw [if_pos hab]
      exact wpAny_pure ⟨rfl, rfl, rst⟩
    · rw [if_neg hab]
      refine wpAny_bind (wpAny_eqIsQuiet_tuple ht ?_)
      simp only [Bool.not_true, Bool.false_eq_true, if_false]
      refine wpAny_bind (wpAny_eqIsQuiet_tuple hb ?_)
      simp only [Bool.not_true, Bool.false_eq_true, if_false]
      refine wpAny_bind (notClass ht ?_)
      simp only [Bool.false_eq_true, if_false]
      refine wpAny_bind (notClass hb ?_)
      simp only [Bool.false_eq_true, if_false]
      exact wpAny_pure ⟨rfl, rfl, rst⟩
  · rintro ⟨r1, r2⟩ s' ⟨hr, rfl, _⟩
    simp only at hr
    subst hr
    exact wpAny_pure h
end
def asFree : Sought → Option Nat
  | .there => none
  | .free j => some j
theorem asFree_none {x : Sought} (h : asFree x = none) : x = .there := by cases x <;> first | rfl | exact nos h.symm
theorem asFree_some {x : Sought} {j : Nat} (h : asFree x = some j) : x = .free j := by cases x <;> first | exact nos h | (cases h; rfl)
section
variable {C : Cx} {F : Fm} {m : Str → Option Value} {σ σ' : Sg} {P : Value → Shared → Prop} {E : Value → Shared → Prop} {A : Around} {s : Shared} {a b : Addr} {es : List (Int × RV)} {vs : List (Int × Value)} {n : Nat} {t : SetTable} {l : List Int}
theorem search_ok (hu : A.units < cLine) (hk : C.K.In σ.h) (hs : s.heap = σ.h) (g : σ.h.get? a = some (setO vs n (ledO C t))) (r : SetRel C σ es vs) (hf : t.fits vs.length = true) (hb : TupI C σ.h l b)
    {f : Sought} (hw : seek es t l = some f) {adding : Bool} {Q : SetFound → Shared → Prop} (h1 : asFree f = none → ∀ o, (adding = false → o.isSome = true) → Q (.there o) s) (h2 : ∀ j, asFree f = some j → Q (.free j false) s) :
    wpAny C.M A (setSearch a (.ref b) (hashL l) adding) Q E s := by
  have hg : t.gaveWay = false := by
    by_cases hg : t.gaveWay = false
    · exact hg
    · unfold seek at hw; rw [if_neg hg] at hw; exact nos hw
  unfold seek at hw
  rw [if_pos hg] at hw
  refine ob_EA (bind_of hw) fun met hm hw => ?_
  have g' : s.heap.get? a = some (setO vs n (ledO C t)) := by rw [hs]; exact g
  have hb' : TupI C s.heap l b := by rw [hs]; exact hb
  have hf' : (ledO C t).fits vs.toArray.size = true := by rw [List.size_toArray]; exact hf
  have st : ∀ {Q : (Array (Int × Value) × Nat × SetTable) → Shared → Prop}, Q (vs.toArray, n, ledO C t) s → wpAny C.M A (setState a) Q E s := fun h => wpAny_setState_of g' rfl hf' h
  show wpAny C.M A (setSearchFrom a (.ref b) (hashL l) adding (99999 + 1) none) Q E s
  unfold setSearchFrom
  refine wpAny_bind (st ?_)
  dsimp only
  rw [if_neg (show ¬ (ledO C t).gaveWay = true from by rw [show (ledO C t).gaveWay = t.gaveWay from rfl, hg]; exact Bool.false_ne_true)]
  have hp : ∀ f', f' = storedH es → (ledO C t).probe f' (hashL l) ((ledO C t).probeStart (hashL l)) = some met := fun f' e => by rw [probe_led, e]; exact hm
  rw [show Option.getD (none : Option SetTable.Probe) ((ledO C t).probeStart (hashL l)) = (ledO C t).probeStart (hashL l) from rfl]
  generalize hst : (ledO C t).probe _ (hashL l) ((ledO C t).probeStart (hashL l)) = pr
  have hpr : pr = some met := by rw [← hst]; exact hp _ (funext fun i => r.hash i)
  subst hpr
  dsimp only
  cases met with
  | empty j d =>
    have hw : (if d = none then some (Sought.free j) else none) = some f := hw
    (refine ob_A (if_of hw) fun o1_ o2_ => ?_; subst o1_; subst o2_)
    exact wpAny_pure (h2 j rfl)
  | candidate j i next =>
    refine ob_EA (bind_of (show ((es[i]?).bind fun e => if tupI e.2 = some l ∧ t.sameMemory t.moves t.mask = some true ∧ t.slot j = .live i then some .there else none) = some f from hw)) fun e he hw => ?_
    (refine ob_A (if_of hw) fun o1_ o2_ => ?_; revert o1_; refine ob_AAr fun k1 k2 k3 => ?_; subst o2_)
    refine ob_EA (r.get he) fun y hy ry => ?_
    (refine ob_EA (tupI_of hk k1 ry) fun c o1_ hc => ?_; subst o1_)
    have hc' : TupI C s.heap l c := by rw [hs]; exact hc
    have rest : wpAny C.M A (do
        let some (_, y) := vs.toArray[i]? | unsupported "internal:set-entry"
        let equal ← holding [y] (eqBool y (.ref b))
        let (es', _, t') ← setState a
        if adding && equal then return SetFound.there none
        let some same := t'.sameMemory (ledO C t).moves (ledO C t).mask | unsupported "set.changed-during-lookup:is-the-new-block-at-the-old-address"
        let still ← match (if same then t'.slot j else .empty) with
          | .live i' => match es'[i']? with
            | some (_, y') => do pure (if ← isSame y' y then some i' else none)
            | none => pure none
          | _ => pure none
        match still with
        | none => rule "set.search.anew"; setSearchFrom a (.ref b) (hashL l) adding 99999 none
        | some i' => if equal then return .there (some i') else setSearchFrom a (.ref b) (hashL l) adding 99999 (some next)) Q E s := by
      rw [List.getElem?_toArray, hy]
      dsimp only
      refine wpAny_bind (wpAny_holding (wpAny_eqBool_tuple hu hc' hb' ?_))
      rw [decide_eq_true rfl]
      refine wpAny_bind (st ?_)
      dsimp only
      cases adding with
      | true => exact wpAny_pure (h1 rfl none fun e => by cases e)
      | false =>
        simp only [Bool.false_and, Bool.false_eq_true, if_false]
        rw [show (ledO C t).sameMemory (ledO C t).moves (ledO C t).mask = some true from k2]
        dsimp only
        rw [if_pos rfl, show (ledO C t).slot j = .live i from k3]
        dsimp only
        rw [List.getElem?_toArray, hy]
        dsimp only
        refine wpAny_bind (wpAny_isSame_ref_self (wpAny_bind (wpAny_pure ?_)))
        simp only [if_true]
        exact wpAny_pure (h1 rfl (some i) fun z_ => rfl)
    dsimp only
    by_cases hl : (!!C.P.followText "set-order") = true
    · rw [if_pos hl]
      refine wpAny_bind (notSeen hb' (fun y h => ?_) ?_)
      · (refine ob_EA (List.mem_map.mp h) fun e he o1_ => ?_; subst o1_)
        (refine ob_EEA (r.keys hk e (by simp at he; exact he.1)) fun l' a' x1 x2 => ?_)
        exact ⟨l', a', x1, by rw [hs]; exact x2⟩
      · rw [if_neg Bool.false_ne_true]
        exact rest
    · rw [if_neg hl]
      exact rest
theorem hash_ok (hu : A.units < cLine) {Q : Int → Shared → Prop} (hb : TupI C s.heap l b) (h : ∀ k, Q (hashL l) { s with toks := k }) : wpAny C.M A (pyHash (.ref b)) Q E s := wpAny_pyHash_tuple hu hb (h _)
theorem find_ok (hu : A.units < cLine) (hk : C.K.In σ.h) (hs : s.heap = σ.h) (g : σ.h.get? a = some (setO vs n (ledO C t))) (r : SetRel C σ es vs) (hf : t.fits vs.length = true) (hb : TupI C σ.h l b)
    {f : Sought} (hw : seek es t l = some f) {Q : Option Nat → Shared → Prop} (h : ∀ o, o.isSome = found f → Q o s) : wpAny C.M A (setFind a (.ref b) (hashL l)) Q E s := by
  show wpAny C.M A (setFindIn a (.ref b) (hashL l) (99999 + 1)) Q E s
  unfold setFindIn
  have g' : s.heap.get? a = some (setO vs n (ledO C t)) := by rw [hs]; exact g
  refine wpAny_bind (wpAny_setState_of g' rfl (by rw [List.size_toArray]; exact hf) ?_)
  dsimp only
  rw [if_neg (show ¬ byScan (.ref b) vs.toArray = true from Bool.false_ne_true)]
  refine wpAny_bind (search_ok hu hk hs g r hf hb hw (fun e o ho => ?_) fun j e => ?_)
  · refine wpAny_pure (h o ?_)
    rw [asFree_none e, ho rfl]; rfl
  · refine wpAny_pure (h none ?_)
    rw [asFree_some e]; rfl
theorem inset_ok (hu : A.units + 5 < cLine) (hk : C.K.In σ.h) (g : σ.h.get? a = some (setO vs n (ledO C t))) (r : SetRel C σ es vs) (hf : t.fits vs.length = true) (hb : TupI C σ.h l b)
    {f : Sought} (hw : seek es t l = some f) (h : ∀ k, P (.bool (found f)) { σ.s with toks := k }) : wpAny C.M A (compareOp .In (.ref b) (.ref a)) P E σ.s := by
  have hT : σ.s.TypeIs (.ref a) "set" := ⟨_, g, rfl⟩
  have hu' : A.in1.units < cLine := by show A.units + 1 < cLine; omega
  show wpAny _ _ (do return .bool (← contains (.ref a) (.ref b))) P E σ.s
  refine wpAny_bind (wpAny_contains_slot hT PySem.F.slot_set_contains ?_)
  refine wpAny_call_entry PySem.F.slot_set_contains hT entry_set_contains ?_ (PySem.F.args_set_contains_2 _ _)
  unfold Builtin.«frozenset.__contains__» Builtin.Frozenset.oneOther
  simp only [List.isEmpty_nil, bind_assoc]
  unfold Builtin.Frozenset.addrOf Builtin.Frozenset.withSetAsKey setContains
  refine wpAny_bind (wpAny_pure ?_)
  try dsimp only
  refine wpAny_bind (wpAny_pure ?_)
  try dsimp only
  refine wpAny_bind (wpAny_tryCatch ?_)
  refine wpAny_holding ?_
  refine wpAny_bind (hash_ok hu' hb fun k => ?_)
  refine wpAny_bind (find_ok (σ := σ) (s := { σ.s with toks := k }) hu' hk rfl g r hf hb hw fun o ho => ?_)
  refine wpAny_pure ?_
  show wpAny _ _ (ret (Value.bool o.isSome)) _ _ _
  rw [ho]
  exact wpAny_pure ⟨_, rfl, wpAny_truthy_bool (wpAny_pure (h k))⟩
end
theorem insertAt_list {α : Type} (xs : List α) (p : Nat) (x : α) : SetTable.insertAt xs.toArray p x = (xs.take p ++ x :: xs.drop p).toArray := by
  unfold SetTable.insertAt
  apply Array.ext'
  simp [List.take_of_length_le]
theorem upd_but {h : Heap} {a : Addr} (f : Obj → Obj) : KeepBut a h (h.update a f) := fun b o hb g => by rw [Heap.get?_update_ne _ _ _ _ hb]; exact g
section
variable {C : Cx} {F : Fm} {m : Str → Option Value} {σ σ' : Sg} {P : Value → Shared → Prop} {E : Value → Shared → Prop} {A : Around} {s : Shared} {a b : Addr} {es : List (Int × RV)} {vs : List (Int × Value)} {n : Nat} {t : SetTable} {l : List Int}
theorem byVal {Q : Bool → Shared → Prop} (ht : TupI C s.heap l a) (h : Q true s) : wpAny C.M A (hashByValue 8 (.ref a)) Q E s := by
  have hT := ht.typeIs
  (revert ht; refine ob_EEEAAAr fun o items n ho hc hd hi => ?_)
  show wpAny C.M A (hashByValue (7 + 1) (.ref a)) Q E s
  unfold hashByValue
  refine wpAny_bind (wpAny_specialOf hT PySem.F.slot_tuple_hash.lookup ?_)
  show wpAny _ _ (seqItems? (.ref a) >>= _) _ _ s
  refine wpAny_bind (wpAny_seqItems ho hd ?_)
  refine wpAny_bind ?_
  show wpAny _ _ (forIn items _ _) _ _ s
  rw [← Array.forIn_toList]
  refine wpAny_forIn_list _ (fun rest r s' => r.1 = none ∧ s' = s ∧ ∃ l, ItemsAre (intKind C.prog C.w) l rest) _ ?_ ?_ _ _ ⟨rfl, rfl, l, hi⟩
  · rintro v rest r s' ⟨hr, rfl, l, hl⟩
    cases hl with
    | cons h1 hl =>
      (refine ob_E (Value.isInt_shape h1) fun t o1_ => ?_; subst o1_)
      unfold hashByValue
      refine wpAny_bind (wpAny_pure ?_)
      simp only [Bool.not_true, Bool.false_eq_true, if_false]
      exact wpAny_pure ⟨rfl, rfl, _, hl⟩
  · rintro ⟨r1, r2⟩ s' ⟨hr, rfl, _⟩
    simp only at hr
    subst hr
    exact wpAny_pure h
theorem SetRel.insert {x : RV} {u : Value} {h : Int} (r : SetRel C σ es vs) (hi : (tupI x).isSome = true) (hv : VRel C σ x u) : ∀ p, SetRel C σ (es.take p ++ (h, x) :: es.drop p) (vs.take p ++ (h, u) :: vs.drop p) := by
  induction r with
  | nil => intro p; simpa using SetRel.cons hi hv .nil
  | cons i y r ih =>
    intro p
    cases p with
    | zero => exact .cons hi hv (.cons i y r)
    | succ p => exact .cons i y (ih p)
structure PutAt (C : Cx) (σ : Sg) (a : Addr) (h h' : Heap) (p : SetP) : Prop where
  rel : ∃ vs, h'.get? a = some (setO vs p.2.1 (ledO C p.2.2)) ∧ SetRel C σ p.1 vs ∧ p.2.2.fits vs.length = true
  but : KeepBut a h h'
theorem add1_ok (hu : A.units < cLine) (hk : C.K.In σ.h) (hs : s.heap = σ.h) (g : σ.h.get? a = some (setO vs n (ledO C t))) (r : SetRel C σ es vs) (hf : t.fits vs.length = true) {x : RV} (hl : tupI x = some l) (hx : VRel C σ x (.ref b))
    {p : SetP} (hw : (seek es t l).bind (putS (es, n, t) (hashL l) x) = some p) {Q : Bool → Shared → Prop} (h : ∀ c h', PutAt C σ a s.heap h' p → Q c { s with heap := h' }) :
    wpAny C.M A (setAddHashed a (.ref b) (hashL l)) Q E s := by
  refine ob_EA (bind_of hw) fun f hw hp => ?_
  refine ob_EA (tupI_of hk hl hx) fun b' e hb => ?_
  cases e
  have g' : s.heap.get? a = some (setO vs n (ledO C t)) := by rw [hs]; exact g
  have st : ∀ {Q : (Array (Int × Value) × Nat × SetTable) → Shared → Prop}, Q (vs.toArray, n, ledO C t) s → wpAny C.M A (setState a) Q E s := fun h => wpAny_setState_of g' rfl (by rw [List.size_toArray]; exact hf) h
  unfold setAddHashed
  refine wpAny_holding ?_
  show wpAny C.M A (setAddHashedIn a (.ref b) (hashL l) (99999 + 1)) Q E s
  unfold setAddHashedIn
  refine wpAny_bind (st ?_)
  dsimp only
  rw [if_neg (show ¬ byScan (.ref b) vs.toArray = true from Bool.false_ne_true)]
  refine wpAny_bind (search_ok hu hk hs g r hf hb hw (fun e o ho => ?_) fun j e => ?_)
  · rw [asFree_none e] at hp
    cases hp
    have hh := h false s.heap ⟨⟨vs, g', r, hf⟩, fun z_ z_ z_ q => q⟩
    exact wpAny_pure hh
  · rw [asFree_some e] at hp
    (refine ob_A (if_of (show (if (t.put j).1.tooFull = false ∧ (t.put j).1.fits (es.length + 1) = true ∧ t.plain = true ∧ es.length < 4000 then some (es.take (t.put j).2 ++ (hashL l, x) :: es.drop (t.put j).2, n + 1, (t.put j).1) else none) = some p from hp)) fun o1_ o2_ => ?_; revert o1_; refine ob_AAAr fun p1 p2 p3 p4 => ?_; subst o2_)
    dsimp only
    refine wpAny_bind (st ?_)
    dsimp only
    rw [if_pos (show ((ledO C t).put j).1.plain = true from p3)]
    refine wpAny_bind (byVal (by rw [hs]; exact hb) ?_)
    rw [if_pos rfl]
    have ln : es.length = vs.length := r.len
    have sz : (SetTable.insertAt vs.toArray ((ledO C t).put j).2 (hashL l, Value.ref b)).size ≤ sizeLine := by
      rw [insertAt_list, List.size_toArray, sizeLine_eq]
      simp only [List.length_append, List.length_cons, List.length_take, List.length_drop]
      omega
    refine wpAny_bind (wpAny_storeSet_of g' rfl ?_ sz)
    rw [if_neg (show ¬ ((!false && ((ledO C t).put j).1.tooFull) = true) from by rw [show ((ledO C t).put j).1.tooFull = (t.put j).1.tooFull from rfl, p1]; exact Bool.false_ne_true)]
    refine wpAny_pure (h true _ ⟨⟨_, ?_, r.insert (by rw [hl]; rfl) hx _, ?_⟩, upd_but _⟩)
    · rw [Heap.get?_update_self _ g' rfl, insertAt_list]; rfl
    · have : (vs.take (t.put j).2 ++ (hashL l, Value.ref b) :: vs.drop (t.put j).2).length = es.length + 1 := by
        rw [ln]; simp; omega
      rw [this]; exact p2
theorem put_age {s q : SetP} {h : Int} {x : RV} {f : Sought} (e : putS s h x f = some q) : Ages (setOf s) (setOf q) := by
  cases f with
  | there => cases e; exact Ages.refl _
  | free j =>
    (refine ob_A (if_of e) fun z_ o1_ => ?_; subst o1_)
    intro k hk
    have hk : s.2.1 = k := Option.some.inj hk
    exact ⟨s.2.1 + 1, rfl, by omega, fun q => by omega⟩
theorem setadd_ok {i : Nat} {x : RV} {u : Value} {Q : PV} {p : Nat × SetP} {q : SetP} (ac : Act C F) (r : Rel C F m σ) (hp : setAt σ.H (.ref i) = some p) (ha : adr σ.ad i = some a) (hx : VRel C σ x u) (hq : addS p.2 x = some q) (hw : Q .none (σ.H.set p.1 (setOf q))) :
    Ev C F m σ (call (.builtin "set.add") [.ref a, u]) (EP C Q) := by
  intro P E hP
  have hk := ac.inK r
  refine ob_A (setAt_of hp) fun e hi => ?_
  cases e
  refine ob_EAAA (r.setAt hi ha) fun vs g R f hb => ?_
  refine ob_EA (bind_of hq) fun l hl hq => ?_
  (refine ob_EA (tupI_of hk hl hx) fun b o1_ hb' => ?_; subst o1_)
  have hT : σ.s.TypeIs (.ref a) "set" := ⟨_, g, rfl⟩
  have uni := ac.uni
  have hu' : F.A.in1.units < cLine := by show F.A.units + 1 < cLine; omega
  refine wpAny_call_entry PySem.F.slot_set_add hT PySem.F.entry_set_add ?_ (PySem.F.args_set_add_2 _ _)
  unfold Builtin.«set.add» Builtin.Frozenset.oneOther
  simp only [List.isEmpty_nil, bind_assoc]
  unfold Builtin.Frozenset.addrOf setAdd
  refine wpAny_bind (wpAny_pure ?_)
  try dsimp only
  refine wpAny_bind (wpAny_pure ?_)
  try dsimp only
  refine wpAny_bind ?_
  refine wpAny_holding ?_
  refine wpAny_bind (hash_ok hu' hb' fun k => ?_)
  refine add1_ok (σ := σ) (s := { σ.s with toks := k }) hu' hk rfl g R f hl hx hq fun c h' A => ?_
  show wpAny _ _ (ret Value.none) _ _ _
  have hd : a ∈ σ.own := mem_own hb (.head _)
  refine wpAny_pure ⟨_, rfl, hP _ (σ.chg p.1 (setOf q) { σ.s with heap := h', toks := k }) ⟨.none, hw, .none⟩ (r.chg hb (.head _) A.but ?_ fun b e => by rw [hi] at e; cases e) (Nx.chg hd A.but ⟨rfl, rfl, rfl⟩ fun o e => ?_)⟩
  · refine ob_EAA (A.rel) fun vs' g' R' f' => ?_
    exact .set g' (R'.mono (chg_carry hd A.but)) f'
  · rw [hi] at e
    cases e
    refine ob_EA (bind_of hq) fun f' z_ hq' => ?_
    exact put_age hq'
end
theorem toPDs_of {u : RV} {us : List RV} {ds : List PyData} (h : toPDs (u :: us) = some ds) : ∃ d ds', toPD u = some d ∧ toPDs us = some ds' ∧ ds = d :: ds' := by
  have h : (match toPD u with | some d => (match toPDs us with | some ds => some (d :: ds) | none => none) | none => none) = some ds := h
  cases h1 : toPD u with
  | none => rw [h1] at h; exact nos h
  | some d =>
    rw [h1] at h
    cases h2 : toPDs us with
    | none => rw [h2] at h; exact nos h
    | some ds' => rw [h2] at h; cases h; exact ⟨_, _, rfl, rfl, rfl⟩
theorem toPDHs_of {H : RH} {u : RV} {us : List RV} {ds : List PyData} (h : toPDHs H (u :: us) = some ds) : ∃ d ds', toPDH H u = some d ∧ toPDHs H us = some ds' ∧ ds = d :: ds' := by
  have h : (match toPDH H u with | some d => (match toPDHs H us with | some ds => some (d :: ds) | none => none) | none => none) = some ds := h
  cases h1 : toPDH H u with
  | none => rw [h1] at h; exact nos h
  | some d =>
    rw [h1] at h
    cases h2 : toPDHs H us with
    | none => rw [h2] at h; exact nos h
    | some ds' => rw [h2] at h; cases h; exact ⟨_, _, rfl, rfl, rfl⟩
section
variable {C : Cx} {F : Fm} {m : Str → Option Value} {σ σ' : Sg} {P : Value → Shared → Prop} {E : Value → Shared → Prop}
mutual
theorem reads_of (hk : C.K.In σ.h) : ∀ (v : RV) {u : Value} {d : PyData}, VRel C σ v u → toPD v = some d → ∃ as, Reads σ.h u d as
  | .none, _, _, h, e => by rw [h.none_inv]; cases e; exact ⟨_, .none⟩
  | .bool b, _, _, h, e => by rw [h.bool_inv]; cases e; exact ⟨_, .bool _⟩
  | .int i, _, _, h, e => by (refine ob_E (h.int_inv) fun t o1_ => ?_; subst o1_); cases e; exact ⟨_, .int _ _⟩
  | .str x, _, _, h, e => by (refine ob_E (h.str_inv) fun t o1_ => ?_; subst o1_); cases e; exact ⟨_, .str _ _⟩
  | .tup us, _, _, h, e => by
    (refine ob_EEEAA (h.tup_at hk) fun a vs n o1_ g r => ?_; subst o1_)
    (refine ob_EA (Option.map_eq_some_iff.mp (show (toPDs us).map PyData.tuple = some _ from e)) fun ds h1 o1_ => ?_; subst o1_)
    refine ob_E (readsAll_of hk us r h1) fun as ra => ?_
    exact ⟨_, .tuple g rfl rfl (by simpa using ra)⟩
  | .rng _ _ _, _, _, _, e => nos e
  | .ref _, _, _, _, e => nos e
  | .fn _, _, _, _, e => nos e
  | .cls _, _, _, _, e => nos e
  | .bi _, _, _, _, e => nos e
  | .ty _, _, _, _, e => nos e
  | .fdict _, _, _, _, e => nos e
  | .sset _, _, _, _, e => nos e
  | .arg _, _, _, _, e => nos e
theorem readsAll_of (hk : C.K.In σ.h) : ∀ (us : List RV) {vs : List Value} {ds : List PyData}, VsRel C σ us vs → toPDs us = some ds → ∃ as, ReadsAll σ.h vs ds as
  | [], _, _, h, e => by rw [h.nil_inv]; cases e; exact ⟨_, .nil⟩
  | u :: us, _, _, h, e => by
    (refine ob_EEAA (h.cons_inv) fun v vs o1_ x rs => ?_; subst o1_)
    (refine ob_EEAA (toPDs_of e) fun d ds h1 h2 o1_ => ?_; subst o1_)
    refine ob_E (reads_of hk u x h1) fun as ra => ?_
    refine ob_E (readsAll_of hk us rs h2) fun bs rb => ?_
    exact ⟨_, .cons ra rb⟩
end
theorem readsL (r : Rel C F m σ) (hk : C.K.In σ.h) {f : List RV → Option (List PyData)} (hf : ∀ us {vs : List Value} {ds : List PyData}, VsRel C σ us vs → f us = some ds → ∃ as, ReadsAll σ.h vs ds as)
    {v : RV} {u : Value} {d : PyData} (h : VRel C σ v u) (e : (match lstAt σ.H v with | some l => (f l.2).map PyData.list | none => toPD v) = some d) : ∃ as, Reads σ.h u d as := by
  cases hl : lstAt σ.H v with
  | none => rw [hl] at e; exact reads_of hk v h e
  | some l =>
    rw [hl] at e
    (refine ob_EA (Option.map_eq_some_iff.mp e) fun ds h1 o1_ => ?_; subst o1_)
    (refine ob_A (lstAt_of hl) fun o1_ hi => ?_; subst o1_)
    (refine ob_EA (h.ref_inv) fun a o1_ ha => ?_; subst o1_)
    refine ob_EEAA (r.listAt hi ha) fun vs n R1 z_ g => ?_
    refine ob_E (hf _ R1 h1) fun as ra => ?_
    exact ⟨_, .list g rfl rfl (by simpa using ra)⟩
theorem readsAllH (r : Rel C F m σ) (hk : C.K.In σ.h) : ∀ (us : List RV) {vs : List Value} {ds : List PyData}, VsRel C σ us vs → toPDHs σ.H us = some ds → ∃ as, ReadsAll σ.h vs ds as
  | [], _, _, h, e => by rw [h.nil_inv]; cases e; exact ⟨_, .nil⟩
  | u :: us, _, _, h, e => by
    (refine ob_EEAA (h.cons_inv) fun v vs o1_ x rs => ?_; subst o1_)
    (refine ob_EEAA (toPDHs_of e) fun d ds h1 h2 o1_ => ?_; subst o1_)
    refine ob_E (readsL r hk (fun us => readsAll_of hk us) x h1) fun as ra => ?_
    refine ob_E (readsAllH r hk us rs h2) fun bs rb => ?_
    exact ⟨_, .cons ra rb⟩
theorem readsHH (r : Rel C F m σ) (hk : C.K.In σ.h) {v : RV} {u : Value} {d : PyData} (h : VRel C σ v u) (e : toPDHH σ.H v = some d) : ∃ as, Reads σ.h u d as := readsL r hk (fun us => readsAllH r hk us) h e
theorem is_none_of {v : RV} {u : Value} (h : VRel C σ v u) : (u == Value.none) = isNoneR v := by
  cases h <;> rfl
theorem isNoneR_of {v : RV} (h : isNoneR v = true) : v = .none := by cases v <;> first | rfl | exact absurd h Bool.false_ne_true
def kvsOf (ds : List DictEntry) : List (Str × Value) := ds.map fun e => (strOf e.key, e.val)
theorem kvs_keys (ds : List DictEntry) : (kvsOf ds).map (·.1) = ds.map fun e => strOf e.key := by simp [kvsOf]
theorem DsRel.keys {es : List (RV × RV)} {ds : List DictEntry} (h : DsRel C σ es ds) : ∀ e ∈ ds, ∃ x t, e.key = .str x t ∧ e.hash = PyData.keyHash C.P x := by
  induction h with
  | nil => intro e he; cases he
  | cons x _ ih =>
    intro e he
    rcases List.mem_cons.mp he with rfl | he
    · exact ⟨_, _, rfl, rfl⟩
    · exact ih e he
theorem DsRel.pairs {es : List (RV × RV)} {ds : List DictEntry} (h : DsRel C σ es ds) : Pairs (PySem.strKind C.prog C.w) ds (kvsOf ds) := by
  induction h with
  | nil => exact .nil
  | cons x _ ih => exact .cons (strKind_is C.prog C.w _ _) rfl ih
theorem dict_of {h : Heap} {a : Addr} {n : Nat} {es : List (RV × RV)} {ds : List DictEntry} (r : DsRel C σ es ds) (hn : (ds.map fun e => strOf e.key).Nodup) (g : h.get? a = some (dctO ds n)) : h.DictOf (PySem.strKind C.prog C.w) a (kvsOf ds) :=
  ⟨_, _, _, g, ⟨rfl, rfl, rfl⟩, rfl, fun e he => by
    refine ob_EEA (r.keys e (by simpa using he)) fun x t e1 e2 => ?_
    exact ⟨x, by rw [e1]; exact strKind_is C.prog C.w x t, e2⟩, by simpa using r.pairs, by rw [kvs_keys]; exact hn⟩
theorem keyEq_str (x y : Str) : keyEq (.str x) (.str y) = (x == y) := rfl
theorem DsRel.get {es : List (RV × RV)} {ds : List DictEntry} (h : DsRel C σ es ds) (x : Str) :
    (∀ v, dget es (.str x) = some v → ∃ u, valueAt (kvsOf ds) x = some u ∧ VRel C σ v u) ∧ (dget es (.str x) = none → valueAt (kvsOf ds) x = none) := by
  induction h with
  | nil => exact ⟨fun v e => nos e, fun z_ => rfl⟩
  | @cons y u t v fs es hv hr ih =>
    unfold dget valueAt kvsOf at ih ⊢
    simp only [List.find?_cons, List.map_cons, keyEq_str, strOf] at ih ⊢
    by_cases hy : y = x
    · subst hy
      simp only [beq_self_eq_true, decide_true, Option.map_some]
      exact ⟨fun v' e => by cases e; exact ⟨_, rfl, hv⟩, fun e => by cases e⟩
    · have h1 : (y == x) = false := by simpa using hy
      have h2 : decide (y = x) = false := by simpa using hy
      simp only [h1, h2]
      exact ih
theorem Act.notMods (a : Act C F) (r : Rel C F m σ) {q : Addr} (h : F.h₀.get? q = none) : (q == sysModules) = false := by
  (refine ob_EA (a.sr.mods) fun mm o1_ z_ => ?_; revert o1_; refine ob_EEEAr fun o z_ z_ ho z_ => ?_)
  cases hq : q == sysModules with
  | false => rfl
  | true => rw [eq_of_beq hq, ho] at h; cases h
theorem asInt_of {v : RV} {i : Int} (h : asInt v = some i) : v = .int i := by cases v <;> first | exact nos h | (cases h; rfl)
theorem fd_rel {es : List (Str × RV)} : ∀ {ds : List DictEntry}, fdM es ds = true → KeysLit C.P ds → DsRel C σ (es.map fun p => (RV.str p.1, p.2)) ds ∧ (ds.map fun e => strOf e.key) = es.map (·.1) := by
  induction es with
  | nil =>
    intro ds h k
    cases ds with
    | nil => exact ⟨.nil, rfl⟩
    | cons d ds => exact absurd h Bool.false_ne_true
  | cons e es ih =>
    intro ds h k
    cases ds with
    | nil => exact absurd h Bool.false_ne_true
    | cons d ds =>
      refine ob_A (an h) fun h h4 => ?_
      refine ob_A (an h) fun h h3 => ?_
      refine ob_A (an h) fun h1 h2 => ?_
      refine ob_E (Option.isSome_iff_exists.mp h2) fun i hi => ?_
      refine ob_E (vStr_of (eq_of_beq h1)) fun t ht => ?_
      refine ob_E (vInt_of ((eq_of_beq h3).trans hi)) fun u hu => ?_
      obtain ⟨x, v⟩ := e
      obtain ⟨hh, key, val⟩ := d
      have hi : v = .int i := asInt_of hi
      have ht : key = .str x t := ht
      have hu : val = .int i u := hu
      subst hi; subst ht; subst hu
      (revert k; refine ob_Ar fun o1_ k' => ?_; revert o1_; refine ob_EEAr fun x' t' e e2 => ?_)
      cases e
      have e2 : hh = PyData.keyHash C.P x := e2
      subst e2
      refine ob_A (ih h4 k') fun a b => ?_
      exact ⟨.cons (.int _ _) a, by rw [List.map_cons, List.map_cons, b]; rfl⟩
theorem fd_get (z : Str) : ∀ es : List (Str × RV), dget (es.map fun p => (RV.str p.1, p.2)) (.str z) = es.lookup z
  | [] => rfl
  | (x, v) :: es => by
    have ih := fd_get z es
    unfold dget at ih ⊢
    simp only [List.map_cons, List.find?_cons, keyEq_str, List.lookup_cons]
    by_cases h : x = z
    · subst h; simp
    · have h1 : (x == z) = false := by simpa using h
      have h2 : (z == x) = false := by simpa using fun e => h e.symm
      rw [h1, h2]
      exact ih
set_option tactic.hygienic true in
theorem fd_at (Z : FdOk C) (hk : C.K.In σ.h) {u : Value} {es : List (Str × RV)} (h : VRel C σ (.fdict es) u) :
    ∃ a ds, u = .ref a ∧ σ.h.DictOf (PySem.strKind C.prog C.w) a (kvsOf ds) ∧ DsRel C σ (es.map fun p => (RV.str p.1, p.2)) ds ∧ (a == sysModules) = false := by
  cases h with
  | fdict h1 h2 h3 h4 h5 =>
    rename_i a ds n
    rcases Z with z | ⟨a', ds', n', z1, z2, z3⟩
    · rw [h1] at z; cases z
    · rw [h1] at z1
      simp only [Option.some.injEq, Value.ref.injEq] at z1
      subst z1
      rw [h2] at z2
      simp only [Option.some.injEq, Obj.mk.injEq, true_and, Data.dict.injEq, and_true] at z2
      (revert z2; refine ob_Ar fun z2 z_ => ?_)
      have z2 : ds = ds' := by simpa using z2
      subst z2
      refine ob_A (fd_rel (σ := σ) h3 z3) fun R1 nd => ?_
      exact ⟨_, ds, rfl, dict_of (n := n) R1 (by rw [nd]; exact h4) (hk _ _ h2), R1, h5⟩
end
theorem map_of {α β : Type} {o : Option α} {f : α → β} {y : β} (h : o.map f = some y) : ∃ x, o = some x ∧ f x = y := Option.map_eq_some_iff.mp h
section
variable {C : Cx} {F : Fm} {m : Str → Option Value} {σ σ' : Sg} {P : Value → Shared → Prop} {E : Value → Shared → Prop} {x y : RV} {u v : Value} {b : Bool}
theorem inrange_ok {i x y : Int} {a : Addr} {t u v k : Tok} (g : σ.h.get? a = some (rngO x y 1 t u v)) (h : P (.bool (decide (x ≤ i ∧ i < y))) σ.s) : wpAny C.M F.A (compareOp .In (.int i k) (.ref a)) P E σ.s := by
  have hT : σ.s.TypeIs (.ref a) "range" := ⟨_, g, rfl⟩
  show wpAny _ _ (do return .bool (← contains (.ref a) (.int i k))) P E σ.s
  refine wpAny_bind (wpAny_contains_slot hT PySem.F.slot_range_contains ?_)
  have e : (Builtin.Range.rangePlace? x y 1 i).isSome = decide (x ≤ i ∧ i < y) := by
    unfold Builtin.Range.rangePlace?
    by_cases h1 : x ≤ i <;> by_cases h2 : i < y <;> simp [h1, h2, Int.emod_one]
  have M : Meets (Builtin.«range.__contains__» ⟨[.ref a, .int i k], []⟩) (fun z_ R s => s.heap.get? a = some (rngO x y 1 t u v) ∧ R (.ok (.ret (.bool (decide (x ≤ i ∧ i < y))))) s) :=
    .of_wp fun prog w A R s h => by
      obtain ⟨hp, g, d, tk, os⟩ := s; (revert h; refine ob_Ar fun hl h => ?_)
      wp_walk using wpAny_loadPart' hl
      exact ⟨_, rfl, by rw [e]; exact h⟩
  exact call_meets PySem.F.slot_range_contains hT PySem.F.entry_range_contains (PySem.F.args_range_contains_2 _ _) M ⟨g, wpAny_truthy_bool (wpAny_pure h)⟩
theorem inseq_ok {vs : List RV} {mk : List PyData → PyData} (hw : inSeq x vs mk = some b) : ∃ d ds, toPD x = some d ∧ toPDs vs = some ds ∧ shaped d = true ∧ shaped (mk ds) = true ∧ (ds.any fun y => PyData.eqv y d) = b := by
  refine ob_EA (bind_of hw) fun d h1 hw => ?_
  refine ob_EA (bind_of hw) fun ds h2 hw => ?_
  refine ob_A (if_of hw) fun h3 h4 => ?_
  exact ⟨d, ds, h1, h2, (an h3).1, (an h3).2, h4⟩
theorem indict_ok {es : List (RV × RV)} {ds : List DictEntry} {a : Addr} {z : Str} {t : Tok} (R : DsRel C σ es ds) (D : σ.h.DictOf (PySem.strKind C.prog C.w) a (kvsOf ds)) (lo : (a == sysModules) = false) (h : ∀ k, P (.bool (dget es (.str z)).isSome) { σ.s with toks := k }) :
    wpAny C.M F.A (compareOp .In (.str z t) (.ref a)) P E σ.s := by
  have G := R.get z
  refine wpAny_in_of (strKind_is C.prog C.w z t) lo D.mapOf ?_
  cases hg : dget es (.str z) with
  | none => rw [hg] at h; rw [G.2 hg]; exact h _
  | some v' => rw [hg] at h; refine ob_EA (G.1 v' hg) fun u' hu' z_ => ?_; rw [hu']; exact h _
set_option tactic.hygienic true in
theorem in_ok (a : Act C F) (r : Rel C F m σ) (hx : VRel C σ x u) (hy : VRel C σ y v) (hw : inP σ.H x y = some b) (hP : ∀ k, P (.bool b) { σ.s with toks := k }) : wpAny C.M F.A (compareOp .In u v) P E σ.s := by
  have uni := a.uni
  have hk := a.inK r
  cases y <;> first | exact nos hw | skip
  case str s =>
    (refine ob_E (hy.str_inv) fun t o1_ => ?_; subst o1_)
    (refine ob_EA (map_of (show (asS x).map (fun x => Txt.contains s x) = some b from hw)) fun s' hs o1_ => ?_; subst o1_)
    rw [asS_of hs] at hx
    (refine ob_E (hx.str_inv) fun t' o1_ => ?_; subst o1_)
    exact SB.contains (hP σ.s.toks)
  case tup vs =>
    (refine ob_EEAAAA (inseq_ok (mk := .tuple) hw) fun d ds h1 h2 s1 s2 o1_ => ?_; subst o1_)
    refine ob_E (reads_of hk x hx h1) fun as ra => ?_
    (refine ob_E (reads_of hk (.tup vs) hy (d := .tuple ds) (show (toPDs vs).map PyData.tuple = _ by rw [h2]; rfl)) fun bs rb => ?_)
    have dp := depth_of_shaped s1
    exact SeqAt.in_tuple_reads rb ra (canLay_of_shaped s2) (canLay_of_shaped s1) (by have := Nat.min_le_right (PyData.depthAll ds) d.depth; omega) (hP σ.s.toks)
  case rng i j c =>
    have hw : (if c = 1 then (asI x).map fun k => decide (i ≤ k ∧ k < j) else none) = some b := hw
    by_cases hc : c = 1
    · rw [if_pos hc] at hw
      subst hc
      (refine ob_EA (map_of hw) fun k hk' o1_ => ?_; subst o1_)
      rw [asI_of hk'] at hx
      (refine ob_E (hx.int_inv) fun t o1_ => ?_; subst o1_)
      (refine ob_EEEEA (hy.rng_inv) fun a' t1 t2 t3 o1_ fz => ?_; subst o1_)
      exact inrange_ok fz.2 (hP σ.s.toks)
    · rw [if_neg hc] at hw; exact nos hw
  case fdict es =>
    (refine ob_EA (map_of (show (asS x).map (fun s => (es.lookup s).isSome) = some b from hw)) fun z hz o1_ => ?_; subst o1_)
    rw [asS_of hz] at hx
    (refine ob_E (hx.str_inv) fun t o1_ => ?_; subst o1_)
    (refine ob_EEAAA (fd_at a.Z hk hy) fun a' ds o1_ D R lo => ?_; subst o1_)
    exact indict_ok R D lo (by rw [fd_get]; exact hP)
  case ref i =>
    (refine ob_EA (hy.ref_inv) fun a' o1_ ha => ?_; subst o1_)
    refine ob_EA (bind_of (show (σ.H[i]?).bind (inO x) = some b from hw)) fun o ho hw => ?_
    cases o with
    | list vs =>
      (refine ob_EEAAAA (inseq_ok (mk := .list) hw) fun d ds h1 h2 s1 s2 o1_ => ?_; subst o1_)
      refine ob_E (reads_of hk x hx h1) fun as ra => ?_
      refine ob_EEAA (r.listAt ho ha) fun us n R1 z_ g => ?_
      refine ob_E (readsAll_of hk vs R1 h2) fun bs rb => ?_
      have rc : Reads σ.h (.ref a') (.list ds) _ := .list g rfl rfl (by simpa using rb)
      have dp := depth_of_shaped s1
      exact SeqAt.in_list_reads rc ra (canLay_of_shaped s2) (canLay_of_shaped s1) (by have := Nat.min_le_right (PyData.depthAll ds) d.depth; omega) (hP σ.s.toks)
    | dict es n => exact nos hw
    | set es n t =>
      refine ob_EA (bind_of (show ((tupI x).bind fun l => (seek es t l).map found) = some b from hw)) fun l hl hw => ?_
      (refine ob_EA (map_of hw) fun f hf o1_ => ?_; subst o1_)
      (refine ob_EA (tupI_of hk hl hx) fun b' o1_ hb => ?_; subst o1_)
      refine ob_EAAA (r.setAt ho ha) fun vs g R f z_ => ?_
      exact inset_ok (by omega) hk g R f hb hf hP
    | inst c fs => exact nos hw
    | tab b => exact nos hw
theorem notin_ok (a : Act C F) (r : Rel C F m σ) (hx : VRel C σ x u) (hy : VRel C σ y v) (hw : inP σ.H x y = some b) (hP : ∀ k, P (.bool (!b)) { σ.s with toks := k }) : wpAny C.M F.A (compareOp .NotIn u v) P E σ.s := by
  have h := in_ok (E := E) (P := fun r s' => ∃ b, r = .bool b ∧ P (.bool (!b)) s') a r hx hy hw (fun k => ⟨_, rfl, hP k⟩)
  show wpAny C.M F.A (do return Value.bool (!(← contains v u))) P E σ.s
  have h' : wpAny C.M F.A (do return Value.bool (← contains v u)) (fun r s' => ∃ b, r = .bool b ∧ P (.bool (!b)) s') E σ.s := h
  refine wpAny_bind (fun Γ q hΓ => ?_)
  have h2 := h' Γ q hΓ
  simp only [Sem.wp_bind', Sem.wp_pure'] at h2
  refine Sem.wp_mono _ Γ _ (fun b p' s' hb => ?_) (fun z_ z_ z_ x => x) q σ.s h2
  (revert hb; refine ob_EAr fun b' e hb => ?_)
  cases e
  exact wpAny_pure hb
end
section
variable {C : Cx} {F : Fm} {m : Str → Option Value} {σ σ' : Sg} {P : Value → Shared → Prop} {E : Value → Shared → Prop} {x y : RV} {u v : Value} {b : Bool}
theorem eqD_of (a : Act C F) (r : Rel C F m σ) (hx : VRel C σ x u) (hy : VRel C σ y v) (hw : eqD σ.H x y = some b) : ∃ da db as bs, Reads σ.h u da as ∧ Reads σ.h v db bs ∧ shaped da = true ∧ shaped db = true ∧ PyData.eqv da db = b := by
  refine ob_EA (bind_of hw) fun da h1 hw => ?_
  refine ob_EA (bind_of hw) fun db h2 hw => ?_
  refine ob_A (if_of hw) fun h3 h4 => ?_
  refine ob_E (readsHH r (a.inK r) hx h1) fun as ra => ?_
  refine ob_E (readsHH r (a.inK r) hy h2) fun bs rb => ?_
  exact ⟨da, db, as, bs, ra, rb, (an h3).1, (an h3).2, h4⟩
theorem eq_ok (a : Act C F) (r : Rel C F m σ) (hx : VRel C σ x u) (hy : VRel C σ y v) (hw : eqP σ.H x y = some b) (hP : ∀ k, P (.bool b) { σ.s with toks := k }) : wpAny C.M F.A (compareOp .Eq u v) P E σ.s := by
  have uni := a.uni
  have hw : (match eqD σ.H x y with | some c => some c | none => eqO σ.H x y) = some b := hw
  cases hd : eqD σ.H x y with
  | some c =>
    rw [hd] at hw
    cases hw
    (refine ob_EEEEAAAA (eqD_of a r hx hy hd) fun da db as bs ra rb sa sb o1_ => ?_; subst o1_)
    exact eq_dataH ra rb sa sb (by omega) (hP σ.s.toks)
  | none =>
    rw [hd] at hw
    refine ob_EA (bind_of hw) fun p h1 hz => ?_
    refine ob_EA (bind_of hz) fun q h2 hy' => ?_
    clear hw hz
    refine ob_A (obAt_of h1) fun e1 g1 => ?_
    refine ob_A (obAt_of h2) fun e2 g2 => ?_
    subst e1; subst e2
    (refine ob_EA (hx.ref_inv) fun a1 o1_ k1 => ?_; subst o1_)
    (refine ob_EA (hy.ref_inv) fun a2 o1_ k2 => ?_; subst o1_)
    have hw : (match asD p.2 with | some d => none | none => (asL p.2).bind fun us => (asL q.2).bind fun vs => if us.length = vs.length then none else some false) = some b := hy'
    cases hp : asD p.2 with
    | some d => rw [hp] at hw; exact nos hw
    | none =>
      rw [hp] at hw
      refine ob_EA (bind_of hw) fun us h3 hw => ?_
      refine ob_EA (bind_of hw) fun vs h4 hw => ?_
      rw [asL_of h3] at g1
      rw [asL_of h4] at g2
      refine ob_EEAA (r.listAt g1 k1) fun ws n R z_ g => ?_
      refine ob_EEAA (r.listAt g2 k2) fun ws' n' R' z_ g' => ?_
      by_cases hl : us.length = vs.length
      · rw [if_pos hl] at hw; exact nos hw
      · rw [if_neg hl] at hw
        cases hw
        exact eq_list_lengthsAt (isList_of g) (isList_of g') (by rw [R.length, R'.length] at hl; simpa using hl) (by omega) (hP σ.s.toks)
theorem ne_ok (a : Act C F) (r : Rel C F m σ) (hx : VRel C σ x u) (hy : VRel C σ y v) (hw : neP σ.H x y = some b) (hP : ∀ k, P (.bool b) { σ.s with toks := k }) : wpAny C.M F.A (compareOp .NotEq u v) P E σ.s := by
  have uni := a.uni
  have hw : (match eqD σ.H x y with | some c => some (!c) | none => neO σ.H x y) = some b := hw
  cases hd : eqD σ.H x y with
  | some c =>
    rw [hd] at hw
    cases hw
    (refine ob_EEEEAAAA (eqD_of a r hx hy hd) fun da db as bs ra rb sa sb o1_ => ?_; subst o1_)
    exact ne_dataH ra rb sa sb (by omega) (hP σ.s.toks)
  | none =>
    rw [hd] at hw
    refine ob_EA (bind_of hw) fun us h3 hz => ?_
    refine ob_EA (bind_of hz) fun vs h4 hw' => ?_
    refine ob_A (lstAt_of h3) fun e1 g1 => ?_
    refine ob_A (lstAt_of h4) fun e2 g2 => ?_
    subst e1; subst e2
    (refine ob_EA (hx.ref_inv) fun a1 o1_ k1 => ?_; subst o1_)
    (refine ob_EA (hy.ref_inv) fun a2 o1_ k2 => ?_; subst o1_)
    refine ob_EEAA (r.listAt g1 k1) fun ws n R z_ g => ?_
    refine ob_EEAA (r.listAt g2 k2) fun ws' n' R' z_ g' => ?_
    by_cases hl : us.2.length = vs.2.length
    · rw [if_pos hl] at hw'; exact nos hw'
    · rw [if_neg hl] at hw'
      cases hw'
      exact RcNeAt.lists_lengths (isList_of g) (isList_of g') (by rw [R.length, R'.length] at hl; simpa using hl) (by omega) _ _ _ _ (hP σ.s.toks)
theorem cmpI_of {f : Int → Int → Bool} (hx : VRel C σ x u) (hy : VRel C σ y v) (hw : cmpI f x y = some b) : ∃ i t j t', u = .int i t ∧ v = .int j t' ∧ f i j = b := by
  refine ob_EA (bind_of hw) fun i h1 hw => ?_
  refine ob_EA (bind_of hw) fun j h2 hw => ?_
  rw [asI_of h1] at hx
  rw [asI_of h2] at hy
  (refine ob_E (hx.int_inv) fun t o1_ => ?_; subst o1_)
  (refine ob_E (hy.int_inv) fun t' o1_ => ?_; subst o1_)
  cases hw
  exact ⟨_, _, _, _, rfl, rfl, rfl⟩
theorem cmp_ok {op : CmpOp} (a : Act C F) (r : Rel C F m σ) (hx : VRel C σ x u) (hy : VRel C σ y v) (hw : cmpP σ.H op x y = some b) (hP : ∀ k, P (.bool b) { σ.s with toks := k }) : wpAny C.M F.A (compareOp op u v) P E σ.s := by
  have uni := a.uni
  have here : P (.bool b) σ.s := hP σ.s.toks
  cases op
  · exact eq_ok a r hx hy hw hP
  · exact ne_ok a r hx hy hw hP
  · (refine ob_EEEEAA (cmpI_of hx hy hw) fun i t j t' o1_ o2_ o3_ => ?_; subst o1_; subst o2_; subst o3_)
    exact _root_.PySem.P.lt_int here
  · (refine ob_EEEEAA (cmpI_of hx hy hw) fun i t j t' o1_ o2_ o3_ => ?_; subst o1_; subst o2_; subst o3_)
    exact _root_.PySem.P.le_int here
  · (refine ob_EEEEAA (cmpI_of hx hy hw) fun i t j t' o1_ o2_ o3_ => ?_; subst o1_; subst o2_; subst o3_)
    exact _root_.PySem.P.gt_int here
  · (refine ob_EEEEAA (cmpI_of hx hy hw) fun i t j t' o1_ o2_ o3_ => ?_; subst o1_; subst o2_; subst o3_)
    exact _root_.PySem.P.ge_int here
  · (refine ob_A (if_of hw) fun h1 o1_ => ?_; subst o1_)
    rw [isNoneR_of h1] at hy
    rw [hy.none_inv]
    rw [← is_none_of hx] at here
    by_cases hv : u = .none
    · subst hv; exact wpAny_is_self rfl here
    · exact is_none_ne hv (by have : (u == Value.none) = false := by simpa using hv
                              rw [this] at here; exact here)
  · (refine ob_A (if_of hw) fun h1 o1_ => ?_; subst o1_)
    rw [isNoneR_of h1] at hy
    rw [hy.none_inv]
    rw [← is_none_of hx] at here
    exact isnot_none_gen here
  · exact in_ok a r hx hy hw hP
  · (refine ob_EA (map_of hw) fun c hc o1_ => ?_; subst o1_)
    exact notin_ok a r hx hy hc hP
theorem DsRel.length {es : List (RV × RV)} {ds : List DictEntry} (h : DsRel C σ es ds) : es.length = ds.length := by
  induction h with
  | nil => rfl
  | cons _ _ ih => simp [ih]
theorem isEmpty_len {vs : List Value} : (!vs.toArray.isEmpty) = (vs.length != 0) := by
  cases vs <;> simp [Array.isEmpty]
set_option tactic.hygienic true in
theorem truth_ok {QB : Bool → Shared → Prop} (a : Act C F) (r : Rel C F m σ) (hv : VRel C σ x u) (hw : truthR σ.H x = some b) (hP : ∀ k, QB b { σ.s with toks := k }) : wpAny C.M F.A (truthy u) QB E σ.s := by
  have hk := a.inK r
  cases x <;> first | exact nos hw | skip
  case none => cases hw; rw [hv.none_inv]; exact truthy_none (hP σ.s.toks)
  case bool c => cases hw; rw [hv.bool_inv]; exact wpAny_truthy_bool (hP σ.s.toks)
  case int i => cases hw; (refine ob_E (hv.int_inv) fun t o1_ => ?_; subst o1_); exact _root_.PySem.P.truthy_int (hP σ.s.toks)
  case str z =>
    (refine ob_A (if_of (show (if z.length ≤ sizeLine then some (z.length != 0) else none) = some b from hw)) fun hl o1_ => ?_; subst o1_)
    (refine ob_E (hv.str_inv) fun t o1_ => ?_; subst o1_)
    rw [sizeLine_eq] at hl
    refine _root_.PySem.P.truthy_str (by omega) ?_
    have : ((z.length : Int) != 0) = (z.length != 0) := by
      by_cases h0 : z.length = 0
      · simp [h0]
      · have h1 : ((z.length : Int) != 0) = true := by simp; omega
        have h2 : (z.length != 0) = true := by simpa using h0
        rw [h1, h2]
    rw [this]; exact hP _
  case tup us =>
    (refine ob_A (if_of (show (if us.length ≤ sizeLine then some (us.length != 0) else none) = some b from hw)) fun hl o1_ => ?_; subst o1_)
    (refine ob_EEEAA (hv.tup_at hk) fun a' vs n o1_ g rs => ?_; subst o1_)
    rw [sizeLine_eq] at hl
    rw [rs.length] at hl hP
    refine truthy_tuple (items := vs.toArray) ⟨_, g, rfl, n, rfl⟩ (by simp; omega) ?_
    rw [isEmpty_len]; exact hP _
  case ref i =>
    refine ob_EA (bind_of (show (σ.H[i]?).bind truthO = some b from hw)) fun o ho hw => ?_
    (refine ob_EA (hv.ref_inv) fun a' o1_ ha => ?_; subst o1_)
    cases o with
    | list us =>
      (refine ob_A (if_of (show (if us.length ≤ sizeLine then some (us.length != 0) else none) = some b from hw)) fun hl o1_ => ?_; subst o1_)
      refine ob_EEAA (r.listAt ho ha) fun vs n R1 z_ g => ?_
      rw [sizeLine_eq] at hl
      rw [R1.length] at hl hP
      refine wpAny_truthy_list (isList_of g) (by simp; omega) ?_
      rw [isEmpty_len]; exact hP _
    | dict es n =>
      (refine ob_A (if_of (show (if es.length ≤ sizeLine then some (es.length != 0) else none) = some b from hw)) fun hl o1_ => ?_; subst o1_)
      refine ob_EAAA (r.dictAt ho ha) fun ds R1 nd hb g => ?_
      rw [sizeLine_eq] at hl
      rw [R1.length] at hl hP
      have hk : (kvsOf ds).length = ds.length := by simp [kvsOf]
      refine wpAny_truthy_dict (a.notMods r (r.low a' (mem_own hb (.head _))).1) (dict_of R1 nd g) (by rw [hk]; omega) ?_
      have : (!(kvsOf ds).isEmpty) = (ds.length != 0) := by
        rw [← hk]
        cases kvsOf ds <;> simp
      rw [this]; exact hP _
    | set es n t => exact nos hw
    | inst c fs => exact nos hw
    | tab b => exact nos hw
end
theorem idx_eq {k : Int} {m j : Nat} (h : idxR k m = some j) : 0 ≤ k ∧ k < 2 ^ 62 ∧ j = k.toNat ∧ j < m ∧ seqIndex? k m = some j := by
  (refine ob_A (if_of h) fun hk o1_ => ?_; subst o1_)
  refine ⟨hk.1, hk.2.2, rfl, by omega, ?_⟩
  unfold seqIndex?
  have h1 : ¬ k < 0 := by omega
  simp only [h1, if_false]
  have : (decide (0 ≤ k) && decide (k < (m : Int))) = true := by simp; omega
  rw [if_pos this]
section
variable {C : Cx} {F : Fm} {V : Vm} {m : Str → Option Value} {σ σ' : Sg} {P : Value → Shared → Prop} {E : Value → Shared → Prop} {x y : RV} {u v : Value} {b : Bool} {Q : PV}
theorem nth_of {us : List RV} {vs : List Value} {i v : RV} {iu : Value} (hi : VRel C σ i iu) (R : VsRel C σ us vs) (h : nthR us i = some v) : ∃ k t w, iu = .int k t ∧ 0 ≤ k ∧ k < 2 ^ 62 ∧ vs[k.toNat]? = some w ∧ VRel C σ v w ∧ seqIndex? k vs.length = some k.toNat := by
  refine ob_EA (bind_of h) fun k hk h => ?_
  refine ob_EA (bind_of h) fun j hj hv => ?_
  (refine ob_AAAA (idx_eq hj) fun h0 h1 o1_ hlt hsi => ?_; subst o1_)
  rw [asI_of hk] at hi
  (refine ob_E (hi.int_inv) fun t o1_ => ?_; subst o1_)
  refine ob_EA (R.get _ _ hv) fun w hw hr => ?_
  exact ⟨k, t, w, rfl, h0, h1, hw, hr, by rw [← R.length]; exact hsi⟩
set_option tactic.hygienic true in
theorem sub_ok {value slice : Expr} {o i v : RV} {ou iu : Value} (a : Act C F) (r : Rel C F m σ) (ho : VRel C σ o ou) (hi : VRel C σ i iu)
    (hs : subscripted slice false ou iu = operate [ou, iu] (getItem ou iu)) (hw : subR σ.H o i = some v) (hq : Q v σ.H) : Ev C F m σ (subscriptTail value slice ou iu) (EP C Q) := by
  intro P E hP
  have hk := a.inK r
  have dct : ∀ {a' : Addr} {es : List (RV × RV)} {ds : List DictEntry} {z : Str} {t : Tok}, DsRel C σ es ds → σ.h.DictOf (PySem.strKind C.prog C.w) a' (kvsOf ds) → dget es (.str z) = some v → subscripted slice false (.ref a') (.str z t) = operate [.ref a', .str z t] (getItem (.ref a') (.str z t)) → wpAny C.M F.A (subscriptTail value slice (.ref a') (.str z t)) P E σ.s := fun R D hg hs => by
    refine ob_EA ((R.get _).1 v hg) fun u hu hr => ?_
    exact tail_any D.mapOf.typeIs slot_dict_getitem.lookup (wpAny_getItem_of (strKind_is C.prog C.w _ _) D.mapOf hu (Ev.tok r hq hr hP)) hs
  cases o <;> first | exact nos hw | skip
  case arg us =>
    cases ho with
    | arg im hc hd rs =>
      rename_i a' vs o n
      (refine ob_EEEAAAAA (nth_of hi rs hw) fun k t w o1_ h0 h1 hu hr hsi => ?_; subst o1_)
      have hL : σ.h.IsList a' vs.toArray := ⟨_, hk _ _ im, hc, _, hd⟩
      exact tail_any hL.typeIs slot_list_getitem.lookup (wpAny_getItem_list hL h0 (by omega) (by simpa using hu) (Ev.same r hq hr hP)) hs
  case tup us =>
    (refine ob_EEEAA (ho.tup_at hk) fun a' vs n o1_ g rs => ?_; subst o1_)
    (refine ob_EEEAAAAA (nth_of hi rs hw) fun k t w o1_ h0 h1 hu hr hsi => ?_; subst o1_)
    exact item_tupleT ⟨_, g, rfl, n, rfl⟩ (by omega) (by omega) hsi hu (Ev.same r hq hr hP) hs
  case str z =>
    refine ob_EA (bind_of (show ((asI i).bind fun k => if (idxR k z.length).isSome then some (RV.str (Txt.item z k)) else none) = some v from hw)) fun k hk' hw => ?_
    (refine ob_A (if_of hw) fun hc o1_ => ?_; subst o1_)
    refine ob_E (Option.isSome_iff_exists.mp hc) fun j hj => ?_
    (refine ob_AAAA (idx_eq hj) fun h0 h1 o1_ hlt hsi => ?_; subst o1_)
    rw [asI_of hk'] at hi
    (refine ob_E (hi.int_inv) fun t o1_ => ?_; subst o1_)
    (refine ob_E (ho.str_inv) fun t' o1_ => ?_; subst o1_)
    have hc : (Txt.charAt z k).isSome = true := by
      unfold Txt.charAt
      rw [hsi]
      show (z.cps[k.toNat]?).isSome = true
      rw [Array.getElem?_eq_getElem (show k.toNat < z.cps.size from hlt)]; rfl
    exact tail_any (typeIs_str _ _ _) PySem.F.slot_str_getitem.lookup (SB.getItem (by unfold fitsSsize; simp; omega) hc (Ev.tok r hq (.str _ _) hP)) hs
  case fdict es =>
    refine ob_EA (bind_of (show ((asS i).bind fun s => es.lookup s) = some v from hw)) fun z hz hw => ?_
    rw [asS_of hz] at hi
    (refine ob_E (hi.str_inv) fun t o1_ => ?_; subst o1_)
    (refine ob_EEAAA (fd_at a.Z hk ho) fun a' ds o1_ D R lo => ?_; subst o1_)
    exact dct R D (by rw [fd_get]; exact hw) hs
  case ref j =>
    refine ob_EA (bind_of (show (σ.H[j]?).bind (fun o => subO o i) = some v from hw)) fun ob hb hw => ?_
    (refine ob_EA (ho.ref_inv) fun a' o1_ ha => ?_; subst o1_)
    cases ob with
    | list us =>
      refine ob_EEAA (r.listAt hb ha) fun vs n R1 z_ g => ?_
      (refine ob_EEEAAAAA (nth_of hi R1 hw) fun k t w o1_ h0 h1 hu hr hsi => ?_; subst o1_)
      have hL := isList_of g
      exact tail_any hL.typeIs slot_list_getitem.lookup (wpAny_getItem_list hL h0 (by omega) (by simpa using hu) (Ev.same r hq hr hP)) hs
    | dict es n => exact nos hw
    | set es n t => exact nos hw
    | inst c fs => exact nos hw
    | tab b => exact nos hw
end
section
variable {ns : Ns} {env : Env} {e : Expr} {r : RE}
theorem kinds {Z : Expr → Prop} (h : mtE ns e r = true) (h0 : ∀ a b c, Z (.BoolOp a b c)) (h2 : ∀ a b c d, Z (.BinOp a b c d)) (h3 : ∀ a b c, Z (.UnaryOp a b c)) (h5 : ∀ a b c d, Z (.IfExp a b c d)) (h6 : ∀ a b c, Z (.Dict a b c))
    (h8 : ∀ a b c d, Z (.ListComp a b c d)) (h15 : ∀ a b c d, Z (.Compare a b c d)) (h16 : ∀ a b c d, Z (.Call a b c d)) (h19 : ∀ a b c, Z (.Constant a b c)) (h20 : ∀ a b c, Z (.Attribute a b c)) (h21 : ∀ a b c, Z (.Subscript a b c))
    (h23 : ∀ a b, Z (.Name a b)) (h24 : ∀ a b, Z (.List a b)) (h25 : ∀ a b c, Z (.Tuple a b c)) : Z e := by
  have x := rbE_eq e
  cases r <;> first | exact absurd h Bool.false_ne_true | (rcases Bool.or_eq_true _ _ |>.mp h with h | h <;> (rw [eq_of_beq h] at x; rw [← x]; first | exact h16 _ _ _ _ | exact h21 _ _ _)) | (rw [eq_of_beq (an h).1] at x; rw [← x]; first | exact h0 _ _ _ | exact h2 _ _ _ _ | exact h3 _ _ _ | exact h5 _ _ _ _ | exact h6 _ _ _ | exact h8 _ _ _ _ | exact h15 _ _ _ _ | exact h16 _ _ _ _ | exact h19 _ _ _ | exact h20 _ _ _ | exact h21 _ _ _ | exact h23 _ _ | exact h24 _ _ | exact h25 _ _ _)
theorem not_starred (h : mtE ns e r = true) : ∀ rest, starEach (e :: rest) env = (false, eval e env) :: starEach rest env := by
  refine kinds (Z := fun e => ∀ rest, starEach (e :: rest) env = (false, eval e env) :: starEach rest env) h ?_ ?_ ?_ ?_ ?_ ?_ ?_ ?_ ?_ ?_ ?_ ?_ ?_ ?_ <;> intros <;> rfl
theorem starEach_plain : ∀ {es : List Expr} {rs : List RE}, mtEs ns es rs = true → starEach es env = es.map fun e => (false, eval e env)
  | es, [], h => by rw [inv_nil h]; rfl
  | es, r :: rs, h => by
    (refine ob_EEAA (inv_cons h) fun e es o1_ h1 h2 => ?_; subst o1_)
    rw [not_starred h1, starEach_plain h2]; rfl
theorem backTo_plain {es : List Expr} {pos : Pos} : backTo pos (es.map fun e => (false, eval e env)) = es.map fun e => (false, eval e env) := by
  unfold backTo
  rw [List.map_map]
  exact List.map_congr_left fun e z_ => rfl
theorem no_mark {op : CmpOp} (h : mtE ns e r = true) : behindInMarks op e = false := by
  cases op <;> first | rfl | (refine kinds (Z := fun e => behindInMarks _ e = false) h ?_ ?_ ?_ ?_ ?_ ?_ ?_ ?_ ?_ ?_ ?_ ?_ ?_ ?_ <;> intros <;> rfl)
theorem sub_plain (h : mtE ns e r = true) (o i : Value) : subscripted e false o i = operate [o, i] (getItem o i) := by
  refine kinds (Z := fun e => subscripted e false o i = operate [o, i] (getItem o i)) h ?_ ?_ ?_ ?_ ?_ ?_ ?_ ?_ ?_ ?_ ?_ ?_ ?_ ?_ <;> intros <;> rfl
theorem marked_plain {rs : List RE} : ∀ {es : List Expr} (ops : List CmpOp) (ts : List (Sem Value)), mtEs ns es rs = true → markedEach ops es ts = ts := by
  induction rs with
  | nil =>
    intro es ops ts h
    rw [inv_nil h]
    cases ops with
    | nil => rfl
    | cons o ops => cases ops <;> rfl
  | cons r rs ih_ =>
    intro es ops ts h
    (refine ob_EEAA (inv_cons h) fun e es o1_ h1 h2 => ?_; subst o1_)
    cases ops with
    | nil => cases es <;> rfl
    | cons o ops =>
      cases ts with
      | nil => cases ops <;> cases es <;> rfl
      | cons t ts =>
        have ih := ih_ ops ts h2
        cases ops with
        | nil =>
          cases es with
          | nil =>
            cases ts with
            | nil =>
              show [markedBehindIn o e t] = [t]
              unfold markedBehindIn
              rw [no_mark h1]
            | cons t' ts => show t :: markedEach [] [] (t' :: ts) = _; rw [ih]
          | cons e' es => show t :: markedEach [] (e' :: es) ts = _; rw [ih]
        | cons o' ops => show t :: markedEach (o' :: ops) es ts = _; rw [ih]
end
section
variable {C : Cx} {F : Fm} {V : Vm} {m : Str → Option Value} {σ σ' : Sg} {U : UTy} {n : Nat} {es : List Expr} {rs : List RE}
def Ok (C : Cx) (U : UTy) (n : Nat) (r : RE) : Prop := ∀ e, EvOk C U n e r ∧ TsOk C U n e r
def Oks (C : Cx) (U : UTy) (n : Nat) : List RE → Prop
  | [] => True
  | r :: rs => Ok C U n r ∧ Oks C U n rs
theorem Act.weak (a : Act C F) : ActK C F 0 := ⟨a.bel, a.frm, a.knd, a.gen, a.cor, a.gl, a.bl, a.X, a.T, a.sr, a.tr, a.hd, by have := a.dep; omega, by have := a.uni; omega, a.O, a.Z, a.bm⟩
theorem evs_ok {rs : List RE} : ∀ {es : List Expr} {σ : Sg} {Q : PL}, Oks C U n rs → F.n = n → mtEs V.ns es rs = true → Now C F V m σ → wpEs C.G U rs V.loc σ.H Q → Ev C F m σ (spliced (es.map fun e => (false, eval e V.env))) (LP C Q) := by
  induction rs with
  | nil =>
    intro es σ Q z_ hn hm N hw
    exact fun P E hP => by
      rw [inv_nil hm]
      exact wpAny_pure (hP [] σ ⟨[], hw, .nil⟩ N.r (Nx.refl _))
  | cons r rs ih_ =>
    intro es σ Q h hn hm N hw
    exact fun P E hP => by
      (refine ob_EEAA (inv_cons hm) fun e es o1_ h1 h2 => ?_; subst o1_)
      refine spliced_cons ((h.1 e).1 hn h1 N hw _ _ fun u σ₁ q r₁ n₁ => ?_)
      (revert q; refine ob_EAr fun v q hv => ?_)
      refine ih_ h.2 hn h2 (N.step r₁ n₁) q _ _ fun us σ₂ q r₂ n₂ => ?_
      (revert q; refine ob_EAr fun vs q hvs => ?_)
      exact hP _ σ₂ ⟨v :: vs, q, .cons (hv.mono n₂.carry) hvs⟩ r₂ (n₁.trans n₂)
theorem bools_ok {op : BoolOp} {pos : Pos} {rs : List RE} : ∀ {es : List Expr} {σ : Sg} {Q : PV}, Oks C U n rs → F.n = n → mtEs V.ns es rs = true → Now C F V m σ → wpBool C.G U (op == .And) rs V.loc σ.H Q → Ev C F m σ (boolOp pos op (evalEach es V.env)) (EP C Q) := by
  induction rs with
  | nil =>
    intro es σ Q z_ hn hm N hw
    exact hw.elim
  | cons r rs ih_ =>
    intro es σ Q h hn hm N hw
    exact fun P E hP => by
      (refine ob_EEAA (inv_cons hm) fun e es o1_ h1 h2 => ?_; subst o1_)
      cases rs with
      | nil =>
        rw [inv_nil h2]
        exact (h.1 e).1 hn h1 N hw P E hP
      | cons r' rs =>
        (refine ob_EEAA (inv_cons h2) fun e' es o1_ h3 h4 => ?_; subst o1_)
        show wpAny C.M F.A (do
          let v ← eval e V.env
          standAt pos
          let t ← holding [v] (truthy v)
          match op, t with
          | .And, false | .Or, true => pure v
          | _, _ => boolOp pos op (evalEach (e' :: es) V.env)) P E σ.s
        refine wpAny_bind ((h.1 e).1 hn h1 N hw _ _ fun u σ₁ q r₁ n₁ => ?_)
        (revert q; refine ob_EAr fun v q hv => ?_)
        refine ob_EA (opt_of (show optwp (truthR σ₁.H v) (fun b => if b = (op == .And) then wpBool C.G U (op == .And) (r' :: rs) V.loc σ₁.H Q else Q v σ₁.H) from q)) fun b hb q => ?_
        refine wpAny_bind (wpAny_standAt ?_)
        refine wpAny_bind (wpAny_holding (truth_ok N.a r₁ hv hb fun k => ?_))
        have hk : Keep σ₁.h ({ σ₁.s with toks := k } : Shared).heap := fun z_ z_ g => g
        have r₂ : Rel C F m (σ₁.at { σ₁.s with toks := k }) := r₁.keep hk
        have n₂ : Nx (NL F) σ (σ₁.at { σ₁.s with toks := k }) := n₁.trans (Nx.keep hk (Sm.refl _))
        have stop : ¬ b = (op == .And) → wpAny C.M F.A (pure u) P E { σ₁.s with toks := k } := fun e => by
          rw [if_neg e] at q
          exact wpAny_pure (hP u (σ₁.at { σ₁.s with toks := k }) ⟨v, q, hv.mono (keep_carry hk)⟩ r₂ n₂)
        have go : b = (op == .And) → wpAny C.M F.A (boolOp pos op (evalEach (e' :: es) V.env)) P E { σ₁.s with toks := k } := fun e => by
          rw [if_pos e] at q
          exact ih_ (σ := σ₁.at { σ₁.s with toks := k }) h.2 hn h2 (N.step r₂ n₂) q P E fun x σ₃ q r₃ n₃ => hP x σ₃ q r₃ (n₂.trans n₃)
        cases op <;> cases b <;> dsimp only
        · exact stop (by decide)
        · exact go rfl
        · exact go rfl
        · exact stop (by decide)
theorem alls_ok {op : BoolOp} {rs : List RE} : ∀ {es : List Expr} {σ : Sg} {Q : PB}, Oks C U n rs → F.n = n → mtEs V.ns es rs = true → Now C F V m σ → wpTs C.G U (op == .And) rs V.loc σ.H Q → Ev C F m σ (allTrue op es V.env) (BP Q) := by
  induction rs with
  | nil =>
    intro es σ Q z_ hn hm N hw
    exact fun P E hP => by
      rw [inv_nil hm]
      exact wpAny_pure (hP _ σ hw N.r (Nx.refl _))
  | cons r rs ih_ =>
    intro es σ Q h hn hm N hw
    exact fun P E hP => by
      (refine ob_EEAA (inv_cons hm) fun e es o1_ h1 h2 => ?_; subst o1_)
      show wpAny C.M F.A (isTrue e V.env (eval e V.env) >>= fun t => match op, t with
        | .And, false => pure false
        | .Or, true => pure true
        | _, _ => allTrue op es V.env) P E σ.s
      refine wpAny_bind ((h.1 e).2 hn h1 N hw _ _ fun b σ₁ q r₁ n₁ => ?_)
      have q : if b = (op == .And) then wpTs C.G U (op == .And) rs V.loc σ₁.H Q else Q b σ₁.H := q
      have go : b = (op == .And) → wpAny C.M F.A (allTrue op es V.env) P E σ₁.s := fun e => by
        rw [if_pos e] at q
        exact ih_ h.2 hn h2 (N.step r₁ n₁) q P E fun x σ₃ q r₃ n₃ => hP x σ₃ q r₃ (n₁.trans n₃)
      have stop : ¬ b = (op == .And) → wpAny C.M F.A (pure b) P E σ₁.s := fun e => by
        rw [if_neg e] at q
        exact wpAny_pure (hP b σ₁ q r₁ n₁)
      cases op <;> cases b <;> dsimp only
      · exact stop (by decide)
      · exact go rfl
      · exact go rfl
      · exact stop (by decide)
end
theorem release_ok {M : Model} {A : Around} {E : Value → Shared → Prop} {s : Shared} {vs keep : List Value} {Q : Unit → Shared → Prop} (h : Q () s) : wpAny M A (release vs keep) Q E s := by
  unfold release
  generalize (vs.filter fun | .ref _ => true | _ => false) = l
  have : ∀ l : List Value, wpAny M A (release.go keep l) Q E s := by
    intro l
    induction l with
    | nil => exact wpAny_pure h
    | cons v r ih =>
      cases r with
      | nil => exact wpAny_pure h
      | cons v' r => exact wpAny_bind (wpAny_holding (wpAny_point ih))
  exact this l
theorem forIn_false {env : Env} (es : List Expr) : (forIn es false fun c r => if r = true then do let ok ← isTrue c env (eval c env); pure (ForInStep.yield ok) else pure (ForInStep.yield r) : Sem Bool) = pure false := by
  induction es with
  | nil => rfl
  | cons e es ih =>
    rw [List.forIn_cons]
    simp only [Bool.false_eq_true, if_false] at ih ⊢
    exact ih
section
variable {C : Cx} {F : Fm} {V : Vm} {m : Str → Option Value} {σ σ' : Sg} {U : UTy} {n : Nat} {es : List Expr} {rs : List RE} {E : Value → Shared → Prop}
abbrev Sg.tk (σ : Sg) (k : Nat) : Sg := σ.at { σ.s with toks := k }
theorem Rel.tk (r : Rel C F m σ) (k : Nat) : Rel C F m (σ.tk k) := r.keep fun z_ z_ g => g
theorem Nx.tk {X : Addr → Prop} (σ : Sg) (k : Nat) : Nx X σ (σ.tk k) := Nx.keep (fun z_ z_ g => g) (Sm.refl _)
theorem tk_carry (σ : Sg) (k : Nat) : Carry σ (σ.tk k) := keep_carry (s' := { σ.s with toks := k }) fun z_ z_ g => g
theorem Ev.after {α : Type} {t : Sem α} {Q : α → Sg → Prop} {P : α → Shared → Prop} (h : Ev C F m σ' t Q) (x : Nx (NL F) σ σ') (hP : ∀ x σ', Q x σ' → Rel C F m σ' → Nx (NL F) σ σ' → P x σ'.s) : wpAny C.M F.A t P E σ'.s :=
  h P E fun y σ'' q r n => hP y σ'' q r (x.trans n)
theorem ifs_ok {rs : List RE} : ∀ {es : List Expr} {σ : Sg} {Q : PB}, Oks C U n rs → F.n = n → mtEs V.ns es rs = true → Now C F V m σ → wpIfs C.G U rs V.loc σ.H Q →
    Ev C F m σ (forIn es true fun c r => if r = true then do let ok ← isTrue c V.env (eval c V.env); pure (ForInStep.yield ok) else pure (ForInStep.yield r)) (BP Q) := by
  induction rs with
  | nil =>
    intro es σ Q z_ hn hm N hw
    exact fun P E hP => by
      rw [inv_nil hm, List.forIn_nil]
      exact wpAny_pure (hP _ σ hw N.r (Nx.refl _))
  | cons r rs ih_ =>
    intro es σ Q h hn hm N hw
    exact fun P E hP => by
      (refine ob_EEAA (inv_cons hm) fun e es o1_ h1 h2 => ?_; subst o1_)
      rw [List.forIn_cons]
      simp only [if_true]
      refine wpAny_bind (wpAny_bind ((h.1 e).2 hn h1 N hw _ _ fun b σ₁ q r₁ n₁ => wpAny_pure ?_))
      dsimp only
      have q : if b = true then wpIfs C.G U rs V.loc σ₁.H Q else Q false σ₁.H := q
      cases b with
      | true => exact (ih_ h.2 hn h2 (N.step r₁ n₁) q).after n₁ hP
      | false =>
        rw [forIn_false]
        exact wpAny_pure (hP false σ₁ q r₁ n₁)
theorem cmp_go {α : Type} {op : CmpOp} {x y : RV} {u v : Value} {b : Bool} {pos : Pos} {k : Value → Bool → Sem α} {P : α → Shared → Prop} (a : Act C F) (r : Rel C F m σ) (hx : VRel C σ x u) (hy : VRel C σ y v) (hc : cmpP σ.H op x y = some b)
    (h : ∀ t, wpAny C.M F.A (k (.bool b) b) P E (σ.tk t).s) : wpAny C.M F.A (do
      standAt pos
      let c ← holding [u, v] (compareOp op u v)
      release [u, v] [c]
      let t ← holding [c, v] (truthy c)
      k c t) P E σ.s :=
  wpAny_bind (wpAny_standAt (wpAny_bind (wpAny_holding (cmp_ok a r hx hy hc fun t => wpAny_bind (release_ok (wpAny_bind (wpAny_holding (wpAny_truthy_bool (h t)))))))))
theorem chs_ok {pos : Pos} : ∀ {rs : List RE} {es : List Expr} {ops : List CmpOp} {σ : Sg} {x : RV} {u : Value} {Q : PV}, Oks C U n rs → F.n = n → mtEs V.ns es rs = true → Now C F V m σ → VRel C σ x u → wpCmp C.G U x ops rs V.loc σ.H Q →
    Ev C F m σ (compareChain pos u ops (evalEach es V.env)) (EP C Q)
  | [], es, [], σ, x, u, Q, _, hn, hm, N, hv, hw => hw.elim
  | [], es, [_], σ, x, u, Q, _, hn, hm, N, hv, hw => hw.elim
  | [], es, _ :: _ :: _, σ, x, u, Q, _, hn, hm, N, hv, hw => hw.elim
  | _ :: _, es, [], σ, x, u, Q, _, hn, hm, N, hv, hw => hw.elim
  | [r], es, [o], σ, x, u, Q, h, hn, hm, N, hv, hw => fun P E hP => by
    (refine ob_EEAA (inv_cons hm) fun e es o1_ h1 h2 => ?_; subst o1_)
    rw [inv_nil h2]
    refine wpAny_bind (wpAny_holding ((h.1 e).1 hn h1 N hw _ _ fun v σ₁ q r₁ n₁ => ?_))
    (revert q; refine ob_EAr fun y q hy => ?_)
    refine ob_EA (opt_of q) fun b hc q => ?_
    refine wpAny_bind (wpAny_standAt (wpAny_operate' ?_))
    exact cmp_ok N.a r₁ (hv.mono n₁.carry) hy hc fun t => hP _ (σ₁.tk t) ⟨.bool b, q, .bool b⟩ (r₁.tk t) (n₁.trans (Nx.tk σ₁ t))
  | r :: r' :: rs, es, o :: ops, σ, x, u, Q, h, hn, hm, N, hv, hw => fun P E hP => by
    (refine ob_EEAA (inv_cons hm) fun e es o1_ h1 h2 => ?_; subst o1_)
    (refine ob_EEAA (inv_cons h2) fun e' es o1_ h3 h4 => ?_; subst o1_)
    have hw : wpE C.G U r V.loc σ.H (fun y H₁ => optwp (cmpP H₁ o x y) fun b => if b then wpCmp C.G U y ops (r' :: rs) V.loc H₁ Q else Q (.bool false) H₁) := by cases ops <;> exact hw
    suffices many : wpAny C.M F.A (do
      let rv ← holding [u] (eval e V.env)
      standAt pos
      let c ← holding [u, rv] (compareOp o u rv)
      release [u, rv] [c]
      if ← holding [c, rv] (truthy c) then compareChain pos rv ops (evalEach (e' :: es) V.env) else pure c) P E σ.s by cases ops <;> exact many
    refine wpAny_bind (wpAny_holding ((h.1 e).1 hn h1 N hw _ _ fun v σ₁ q r₁ n₁ => ?_))
    (revert q; refine ob_EAr fun y q hy => ?_)
    refine ob_EA (opt_of q) fun b hc q => ?_
    refine cmp_go (k := fun c t => if t = true then compareChain pos v ops (evalEach (e' :: es) V.env) else pure c) N.a r₁ (hv.mono n₁.carry) hy hc fun t => ?_
    have n₂ := n₁.trans (Nx.tk σ₁ t)
    cases b with
    | true => exact (chs_ok (σ := σ₁.tk t) h.2 hn h2 (N.step (r₁.tk t) n₂) (hy.mono (tk_carry σ₁ t)) q).after n₂ hP
    | false => exact wpAny_pure (hP _ (σ₁.tk t) ⟨.bool false, q, .bool false⟩ (r₁.tk t) n₂)
  | [r], es, o :: o' :: ops, σ, x, u, Q, h, hn, hm, N, hv, hw => fun P E hP => by
    (refine ob_EEAA (inv_cons hm) fun e es o1_ h1 h2 => ?_; subst o1_)
    rw [inv_nil h2]
    have hw : wpE C.G U r V.loc σ.H (fun y H₁ => optwp (cmpP H₁ o x y) fun b => if b then wpCmp C.G U y (o' :: ops) [] V.loc H₁ Q else Q (.bool false) H₁) := hw
    refine wpAny_bind (wpAny_holding ((h.1 e).1 hn h1 N hw _ _ fun v σ₁ q r₁ n₁ => ?_))
    (revert q; refine ob_EAr fun y q hy => ?_)
    refine ob_EA (opt_of q) fun b hc q => ?_
    refine cmp_go (k := fun c t => if t = true then compareChain pos v (o' :: ops) (evalEach [] V.env) else pure c) N.a r₁ (hv.mono n₁.carry) hy hc fun t => ?_
    have n₂ := n₁.trans (Nx.tk σ₁ t)
    cases b with
    | true => cases ops <;> exact q.elim
    | false => exact wpAny_pure (hP _ (σ₁.tk t) ⟨.bool false, q, .bool false⟩ (r₁.tk t) n₂)
theorem chts_ok {pos : Pos} : ∀ {rs : List RE} {es : List Expr} {ops : List CmpOp} {σ : Sg} {x : RV} {u : Value} {Q : PB}, Oks C U n rs → F.n = n → mtEs V.ns es rs = true → Now C F V m σ → VRel C σ x u → wpCmpT C.G U x ops rs V.loc σ.H Q →
    Ev C F m σ (testChain pos u ops (evalEach es V.env)) (BP Q)
  | [], es, [], σ, x, u, Q, _, hn, hm, N, hv, hw => hw.elim
  | [], es, [_], σ, x, u, Q, _, hn, hm, N, hv, hw => hw.elim
  | [], es, _ :: _ :: _, σ, x, u, Q, _, hn, hm, N, hv, hw => hw.elim
  | _ :: _, es, [], σ, x, u, Q, _, hn, hm, N, hv, hw => hw.elim
  | [r], es, [o], σ, x, u, Q, h, hn, hm, N, hv, hw => fun P E hP => by
    (refine ob_EEAA (inv_cons hm) fun e es o1_ h1 h2 => ?_; subst o1_)
    rw [inv_nil h2]
    refine wpAny_bind (wpAny_holding ((h.1 e).1 hn h1 N hw _ _ fun v σ₁ q r₁ n₁ => ?_))
    (revert q; refine ob_EAr fun y q hy => ?_)
    refine ob_EA (opt_of q) fun b hc q => ?_
    refine wpAny_bind (wpAny_standAt (wpAny_bind (wpAny_operate' ?_)))
    exact cmp_ok N.a r₁ (hv.mono n₁.carry) hy hc fun t => wpAny_holding (wpAny_truthy_bool (hP _ (σ₁.tk t) q (r₁.tk t) (n₁.trans (Nx.tk σ₁ t))))
  | r :: r' :: rs, es, o :: ops, σ, x, u, Q, h, hn, hm, N, hv, hw => fun P E hP => by
    (refine ob_EEAA (inv_cons hm) fun e es o1_ h1 h2 => ?_; subst o1_)
    (refine ob_EEAA (inv_cons h2) fun e' es o1_ h3 h4 => ?_; subst o1_)
    have hw : wpE C.G U r V.loc σ.H (fun y H₁ => optwp (cmpP H₁ o x y) fun b => if b then wpCmpT C.G U y ops (r' :: rs) V.loc H₁ Q else Q false H₁) := by cases ops <;> exact hw
    suffices many : wpAny C.M F.A (do
      let rv ← holding [u] (eval e V.env)
      standAt pos
      let c ← holding [u, rv] (compareOp o u rv)
      release [u, rv] [c]
      if ← holding [c, rv] (truthy c) then testChain pos rv ops (evalEach (e' :: es) V.env) else pure false) P E σ.s by cases ops <;> exact many
    refine wpAny_bind (wpAny_holding ((h.1 e).1 hn h1 N hw _ _ fun v σ₁ q r₁ n₁ => ?_))
    (revert q; refine ob_EAr fun y q hy => ?_)
    refine ob_EA (opt_of q) fun b hc q => ?_
    refine cmp_go (k := fun c t => if t = true then testChain pos v ops (evalEach (e' :: es) V.env) else pure false) N.a r₁ (hv.mono n₁.carry) hy hc fun t => ?_
    have n₂ := n₁.trans (Nx.tk σ₁ t)
    cases b with
    | true => exact (chts_ok (σ := σ₁.tk t) h.2 hn h2 (N.step (r₁.tk t) n₂) (hy.mono (tk_carry σ₁ t)) q).after n₂ hP
    | false => exact wpAny_pure (hP _ (σ₁.tk t) q (r₁.tk t) n₂)
  | [r], es, o :: o' :: ops, σ, x, u, Q, h, hn, hm, N, hv, hw => fun P E hP => by
    (refine ob_EEAA (inv_cons hm) fun e es o1_ h1 h2 => ?_; subst o1_)
    rw [inv_nil h2]
    have hw : wpE C.G U r V.loc σ.H (fun y H₁ => optwp (cmpP H₁ o x y) fun b => if b then wpCmpT C.G U y (o' :: ops) [] V.loc H₁ Q else Q false H₁) := hw
    refine wpAny_bind (wpAny_holding ((h.1 e).1 hn h1 N hw _ _ fun v σ₁ q r₁ n₁ => ?_))
    (revert q; refine ob_EAr fun y q hy => ?_)
    refine ob_EA (opt_of q) fun b hc q => ?_
    refine cmp_go (k := fun c t => if t = true then testChain pos v (o' :: ops) (evalEach [] V.env) else pure false) N.a r₁ (hv.mono n₁.carry) hy hc fun t => ?_
    have n₂ := n₁.trans (Nx.tk σ₁ t)
    cases b with
    | true => cases ops <;> exact q.elim
    | false => exact wpAny_pure (hP _ (σ₁.tk t) q (r₁.tk t) n₂)
end
section
variable {C : Cx} {F : Fm} {V : Vm} {m : Str → Option Value} {σ σ' : Sg} {U : UTy} {n : Nat} {e : Expr} {a b c : RE} {rs : List RE} {E : Value → Shared → Prop}
theorem ev_boolop {k : Bool} (h : Oks C U n rs) : EvOk C U n e (.boolop k rs) := by
  intro F V m σ Q hn hm N hw
  (refine ob_EEEAA (inv_boolop hm) fun op es p o1_ hb hes => ?_; subst o1_)
  subst hb
  exact bools_ok h hn hes N hw
theorem ev_bin {op : Operator} (h1 : Ok C U n a) (h2 : Ok C U n b) : EvOk C U n e (.bin op a b) := by
  intro F V m σ Q hn hm N hw P E hP
  (refine ob_EEEAA (inv_bin hm) fun l r p o1_ ha hb => ?_; subst o1_)
  refine wpAny_BinOp ((h1 l).1 hn ha N hw _ _ fun u σ₁ q r₁ n₁ => ?_)
  (revert q; refine ob_EAr fun x q hx => ?_)
  refine (h2 r).1 hn hb (N.step r₁ n₁) q _ _ fun v σ₂ q r₂ n₂ => ?_
  (revert q; refine ob_EAr fun y q hy => ?_)
  exact (bin_ok N.a r₂ (hx.mono n₂.carry) hy q).after (n₁.trans n₂) hP
theorem ev_not (h : Ok C U n a) : EvOk C U n e (.not a) := by
  intro F V m σ Q hn hm N hw P E hP
  (refine ob_EEA (inv_not hm) fun x p o1_ ha => ?_; subst o1_)
  show wpAny C.M F.A (eval x V.env >>= fun v => standAt p >>= fun z_ => holding [v] (unaryOp .Not v)) P E σ.s
  refine wpAny_bind ((h x).1 hn ha N hw _ _ fun u σ₁ q r₁ n₁ => ?_)
  (revert q; refine ob_EAr fun v q hv => ?_)
  refine ob_EA (opt_of q) fun b hb q => ?_
  refine wpAny_bind (wpAny_standAt (wpAny_holding (not_of ?_)))
  exact truth_ok N.a r₁ hv hb fun t => hP _ (σ₁.tk t) ⟨_, q, .bool _⟩ (r₁.tk t) (n₁.trans (Nx.tk σ₁ t))
theorem ev_neg (h : Ok C U n a) : EvOk C U n e (.neg a) := by
  intro F V m σ Q hn hm N hw P E hP
  (refine ob_EEA (inv_neg hm) fun x p o1_ ha => ?_; subst o1_)
  show wpAny C.M F.A (eval x V.env >>= fun v => standAt p >>= fun z_ => holding [v] (unaryOp .USub v)) P E σ.s
  refine wpAny_bind ((h x).1 hn ha N hw _ _ fun u σ₁ q r₁ n₁ => ?_)
  (revert q; refine ob_EAr fun v q hv => ?_)
  refine ob_EA (opt_of q) fun i hi q => ?_
  rw [asI_of hi] at hv
  (refine ob_E (hv.int_inv) fun t o1_ => ?_; subst o1_)
  refine wpAny_bind (wpAny_standAt (wpAny_holding ?_))
  exact _root_.PySem.P.neg_int (hP _ (σ₁.tk _) ⟨_, q, .int _ _⟩ (r₁.tk _) (n₁.trans (Nx.tk σ₁ _)))
theorem ev_cond (h0 : Ok C U n a) (h1 : Ok C U n b) (h2 : Ok C U n c) : EvOk C U n e (.cond a b c) := by
  intro F V m σ Q hn hm N hw P E hP
  (refine ob_EEEEAAA (inv_cond hm) fun t b' o' p o1_ ha hb hc => ?_; subst o1_)
  rw [eval_IfExp]
  refine wpAny_bind ((h0 t).2 hn ha N hw _ _ fun k σ₁ q r₁ n₁ => ?_)
  cases k with
  | true => exact ((h1 b').1 hn hb (N.step r₁ n₁) q).after n₁ hP
  | false => exact ((h2 o').1 hn hc (N.step r₁ n₁) q).after n₁ hP
theorem ev_list (h : Oks C U n rs) : EvOk C U n e (.list rs) := by
  intro F V m σ Q hn hm N hw P E hP
  (refine ob_EEA (inv_list hm) fun es p o1_ hes => ?_; subst o1_)
  refine List_ ?_
  rw [starEach_plain hes, backTo_plain]
  refine evs_ok h hn hes N hw _ _ fun us σ₁ q r₁ n₁ => ?_
  (revert q; refine ob_EAr fun vs q hv => ?_)
  exact (list_ok r₁ hv q.1 q.2).after n₁ hP
theorem ev_tup (h : Oks C U n rs) : EvOk C U n e (.tup rs) := by
  intro F V m σ Q hn hm N hw P E hP
  (refine ob_EEEA (inv_tup hm) fun es k p o1_ hes => ?_; subst o1_)
  refine Tuple_ ?_
  rw [starEach_plain hes, backTo_plain]
  refine evs_ok h hn hes N hw _ _ fun us σ₁ q r₁ n₁ => ?_
  (revert q; refine ob_EAr fun vs q hv => ?_)
  exact (tup_ok r₁ hv q.1 q.2).after n₁ hP
theorem ev_cmp {ops : List CmpOp} (h : Ok C U n a) (h' : Oks C U n rs) : EvOk C U n e (.cmp a ops rs) := by
  intro F V m σ Q hn hm N hw P E hP
  (refine ob_EEEAA (inv_cmp hm) fun x es p o1_ ha hes => ?_; subst o1_)
  show wpAny C.M F.A (eval x V.env >>= fun v => compareChain p v ops (markedEach ops es (evalEach es V.env))) P E σ.s
  rw [marked_plain ops _ hes]
  refine wpAny_bind ((h x).1 hn ha N hw _ _ fun u σ₁ q r₁ n₁ => ?_)
  (revert q; refine ob_EAr fun v q hv => ?_)
  exact (chs_ok h' hn hes (N.step r₁ n₁) hv q).after n₁ hP
theorem ev_sub (h1 : Ok C U n a) (h2 : Ok C U n b) : EvOk C U n e (.sub a b) := by
  intro F V m σ Q hn hm N hw P E hP
  (refine ob_EEEAA (inv_sub hm) fun o i p o1_ ha hb => ?_; subst o1_)
  refine Subscript_ ((h1 o).1 hn ha N hw _ _ fun u σ₁ q r₁ n₁ => ?_)
  (revert q; refine ob_EAr fun x q hx => ?_)
  refine (h2 i).1 hn hb (N.step r₁ n₁) q _ _ fun v σ₂ q r₂ n₂ => ?_
  (revert q; refine ob_EAr fun y q hy => ?_)
  refine ob_EA (opt_of q) fun w hw q => ?_
  exact (sub_ok N.a r₂ (hx.mono n₂.carry) hy (sub_plain hb _ _) hw q).after (n₁.trans n₂) hP
theorem ts_not (h : Ok C U n a) : TsOk C U n e (.not a) := by
  intro F V m σ Q hn hm N hw P E hP
  (refine ob_EEA (inv_not hm) fun x p o1_ ha => ?_; subst o1_)
  refine isTrue_not ((h x).2 hn ha N hw _ _ fun b σ₁ q r₁ n₁ => ?_)
  exact hP _ σ₁ q r₁ n₁
theorem ts_bool {k : Bool} (h : Oks C U n rs) : TsOk C U n e (.boolop k rs) := by
  intro F V m σ Q hn hm N hw
  (refine ob_EEEAA (inv_boolop hm) fun op es p o1_ hb hes => ?_; subst o1_)
  subst hb
  rw [arm_isTrue_BoolOp]
  exact alls_ok h hn hes N hw
theorem ts_cond (h0 : Ok C U n a) (h1 : Ok C U n b) (h2 : Ok C U n c) : TsOk C U n e (.cond a b c) := by
  intro F V m σ Q hn hm N hw P E hP
  (refine ob_EEEEAAA (inv_cond hm) fun t b' o' p o1_ ha hb hc => ?_; subst o1_)
  rw [arm_isTrue_IfExp]
  refine wpAny_bind ((h0 t).2 hn ha N hw _ _ fun k σ₁ q r₁ n₁ => ?_)
  cases k with
  | true => exact ((h1 b').2 hn hb (N.step r₁ n₁) q).after n₁ hP
  | false => exact ((h2 o').2 hn hc (N.step r₁ n₁) q).after n₁ hP
theorem ts_cmp {ops : List CmpOp} (h : Ok C U n a) (h' : Oks C U n rs) : TsOk C U n e (.cmp a ops rs) := by
  intro F V m σ Q hn hm N hw P E hP
  (refine ob_EEEAA (inv_cmp hm) fun x es p o1_ ha hes => ?_; subst o1_)
  rw [arm_isTrue_Compare, marked_plain ops _ hes]
  refine wpAny_bind ((h x).1 hn ha N hw _ _ fun u σ₁ q r₁ n₁ => ?_)
  (revert q; refine ob_EAr fun v q hv => ?_)
  exact (chts_ok h' hn hes (N.step r₁ n₁) hv q).after n₁ hP
theorem ts_plain {r : RE} (h : ∀ e, EvOk C U n e r) (hr : ∀ whole loc H Q, wpT C.G U r whole loc H Q = whole loc H fun v H₁ => optwp (truthR H₁ v) fun b => Q b H₁)
    (he : ∀ ns e, mtE ns e r = true → ∀ env whole, isTrue e env whole = (do let v ← whole; standAt e.pos; holding [v] (truthy v))) : Ok C U n r := fun e => ⟨h e, by
  intro F V m σ Q hn hm N hw P E hP
  rw [hr] at hw
  rw [he _ e hm]
  refine wpAny_bind (h e hn hm N hw _ _ fun u σ₁ q r₁ n₁ => ?_)
  (revert q; refine ob_EAr fun v q hv => ?_)
  refine ob_EA (opt_of q) fun b hb q => ?_
  refine wpAny_bind (wpAny_standAt (wpAny_holding ?_))
  exact truth_ok N.a r₁ hv hb fun t => hP _ (σ₁.tk t) q (r₁.tk t) (n₁.trans (Nx.tk σ₁ t))⟩
end
section
variable {C : Cx} {F : Fm} {m : Str → Option Value} {σ σ' : Sg} {s' : Shared} {X : Addr → Prop} {Q : PV} {P : Value → Shared → Prop}
noncomputable def others (F : Fm) (σ : Sg) : List (Addr × Obj) :=
  (List.range σ.h.objs.size).filterMap fun a => match σ.h.get? a with
    | some o => if a = F.L ∨ (F.h₀.get? a).isSome then none else some (a, o)
    | none => none
theorem mem_others {a : Addr} {o : Obj} : (a, o) ∈ others F σ ↔ σ.h.get? a = some o ∧ a ≠ F.L ∧ F.h₀.get? a = none := by
  unfold others
  rw [List.mem_filterMap]
  constructor
  · rintro ⟨b, _, h⟩
    cases g : σ.h.get? b with
    | none => rw [g] at h; cases h
    | some o' =>
      rw [g] at h
      by_cases hc : b = F.L ∨ (F.h₀.get? b).isSome
      · simp only [if_pos hc] at h; cases h
      · simp only [if_neg hc] at h
        cases h
        exact ⟨g, fun e => hc (.inl e), by cases e : F.h₀.get? a with
          | none => rfl
          | some _ => exact absurd (.inr (by rw [e]; rfl)) hc⟩
  · rintro ⟨g, h1, h2⟩
    refine ⟨a, List.mem_range.mpr (Heap.lt_size g), ?_⟩
    simp [g, h1, h2]
theorem news_others : News F.h₀ F.L σ.h (others F σ) := fun p hp => by
  obtain ⟨a, o⟩ := p
  exact mem_others.mp hp
theorem but_of (r : Rel C F m σ) {h' : Heap} (F' : Fr F.h₀ F.L h' m) (N' : News F.h₀ F.L h' (others F σ)) : KeepBut F.L σ.h h' := fun a o ha g => by
  cases e : F.h₀.get? a with
  | none => exact (N' _ (mem_others.mpr ⟨g, ha, e⟩)).1
  | some o' =>
    have := r.fr.keep a o' e
    rw [g] at this
    cases this
    exact F'.keep a o e
theorem butL_carry (r : Rel C F m σ) (hk : KeepBut F.L σ.h s'.heap) : Carry σ (σ.at s') := ⟨fun z_ z_ e => e, fun a o hf j => ⟨j.1, hk a o (fun q => by
  refine ob_EEEA (r.liveL) fun o' es ep g d => ?_
  rw [q] at j
  have e := j.2
  rw [g] at e
  cases e
  exact hf.2.1 es ep d) j.2⟩⟩
theorem Rel.keepL (r : Rel C F m σ) {m' : Str → Option Value} (F' : Fr F.h₀ F.L s'.heap m') (hk : KeepBut F.L σ.h s'.heap) : Rel C F m' (σ.at s') where
  fr := F'
  nd := r.nd
  low := r.low
  len := r.len
  R i o e := let ⟨b, hb, x⟩ := r.R i o e; ⟨b, hb, x.mono (butL_carry r hk) fun a ha x g => hk a x (r.low a (mem_own hb ha)).2 g⟩
  tb := r.tb
theorem Nx.keepL (r : Rel C F m σ) {m' : Str → Option Value} (F' : Fr F.h₀ F.L s'.heap m') (hk : KeepBut F.L σ.h s'.heap) (sm : Sm σ.s s') : Nx (NL F) σ (σ.at s') := by
  refine ⟨fun z_ z_ e => e, fun z_ e => .inl e, fun a o z_ g => ?_, fun a o z_ k g => ?_, sm, Hx.refl _⟩
  · by_cases h : a = F.L
    · subst h
      refine ob_EEEA (F'.ns) fun o' z_ z_ g' z_ => ?_
      exact ⟨o', g'⟩
    · exact ⟨o, hk a o h g⟩
  · by_cases h : a = F.L
    · refine ob_EEEA (r.liveL) fun o' es ep g' d => ?_
      rw [h, g'] at g
      cases g
      exact absurd d ((k h).1 es ep)
    · exact hk a o h g
theorem off_own (r : Rel C F m σ) {D : Addr} (h : σ.h.get? D = none) : D ∉ σ.own := fun q => by
  refine ob_EA (r.live q) fun x g z_ => ?_
  rw [h] at g; cases g
theorem Ev.laid (r : Rel C F m σ) {D : Addr} {o : Obj} {ro : RO} {h' : Heap} {k : Nat} (F' : Fr F.h₀ F.L h' m) (hk : KeepBut F.L σ.h h') (hD : σ.h.get? D = none) (hL : D ≠ F.L) (h0 : F.h₀.get? D = none) (g : h'.get? D = some o) (hc : idle o)
    (q : Q (.ref σ.H.length) (σ.H ++ [ro])) (hr : ∀ σ', Carry σ σ' → σ'.h.get? D = some o → ORel C σ' ro [D]) (hP : ∀ x σ', EP C Q x σ' → Rel C F m σ' → Nx (NL F) σ σ' → P x σ'.s) : P (.ref D) { σ.s with heap := h', toks := k } := by
  have r₁ : Rel C F m (σ.at { σ.s with heap := h', toks := k }) := r.keepL F' hk
  have n₁ : Nx (NL F) σ (σ.at { σ.s with heap := h', toks := k }) := Nx.keepL r F' hk ⟨rfl, rfl, rfl⟩
  have hb : ∀ a ∈ [D], ∀ o', fixd o' → ¬ h'.get? a = some o' := fun a ha o' hf g' => by
    rw [List.mem_singleton] at ha
    rw [ha, g] at g'
    cases g'
    rcases hf.1 with e | e | e
    · exact hc.1 e
    · exact hc.2.1 e
    · exact hc.2.2 e
  have c₂ : Carry (σ.at { σ.s with heap := h', toks := k }) ((σ.at { σ.s with heap := h', toks := k }).new [D] ro { σ.s with heap := h', toks := k }) := new_carry (fun z_ z_ g => g) hb
  refine hP _ ((σ.at { σ.s with heap := h', toks := k }).new [D] ro { σ.s with heap := h', toks := k }) ⟨_, q, .ref (adr_new r _ _ _)⟩
    (r₁.take (fun z_ z_ g => g) (by simp) (fun a ha => by rw [List.mem_singleton] at ha; rw [ha]; exact off_own r hD) (fun a ha => by rw [List.mem_singleton] at ha; rw [ha]; exact ⟨h0, hL⟩) hb (hr _ (n₁.carry.trans c₂) g)) ?_
  refine ⟨fun i b e => ext_new [D] ro e, fun a ha => ?_, n₁.liv, n₁.frm, n₁.sm, Hx.snoc _ _⟩
  rcases own_new.mp ha with ha | ha
  · exact .inl ha
  · rw [List.mem_singleton] at ha
    rw [ha]; exact .inr hD
theorem Ev.keeps (r : Rel C F m σ) {v : RV} {u : Value} (q : Q v σ.H) (hv : VRel C σ v u) {h' : Heap} {k : Nat} (hk : Keep σ.h h') (hP : ∀ x σ', EP C Q x σ' → Rel C F m σ' → Nx (NL F) σ σ' → P x σ'.s) : P u { σ.s with heap := h', toks := k } :=
  hP u (σ.at { σ.s with heap := h', toks := k }) ⟨v, q, hv.mono (keep_carry hk)⟩ (r.keep hk) (Nx.keep hk ⟨rfl, rfl, rfl⟩)
theorem Ev.keepsL (r : Rel C F m σ) {v : RV} {u : Value} (q : Q v σ.H) (hv : VRel C σ v u) {h' : Heap} {k : Nat} (F' : Fr F.h₀ F.L h' m) (hk : KeepBut F.L σ.h h') (hP : ∀ x σ', EP C Q x σ' → Rel C F m σ' → Nx (NL F) σ σ' → P x σ'.s) : P u { σ.s with heap := h', toks := k } :=
  hP u (σ.at { σ.s with heap := h', toks := k }) ⟨v, q, hv.mono (butL_carry r hk)⟩ (r.keepL F' hk) (Nx.keepL r F' hk ⟨rfl, rfl, rfl⟩)
end
theorem strsP_of {u : RV} {us : List RV} {ss : List Str} (h : strsP (u :: us) = some ss) : ∃ x l, u = .str x ∧ strsP us = some l ∧ ss = x :: l := by
  have h : (match asS u with | some s => (strsP us).map (s :: ·) | none => none) = some ss := h
  cases hi : asS u with
  | none => rw [hi] at h; exact nos h
  | some x =>
    rw [hi] at h
    (refine ob_EA (map_of h) fun l hl o1_ => ?_; subst o1_)
    exact ⟨x, l, asS_of hi, hl, rfl⟩
theorem intsP_inv {u : RV} {us : List RV} {ns : List Int} (h : intsP (u :: us) = some ns) : ∃ x l, u = .int x ∧ intsP us = some l ∧ ns = x :: l := by
  have h : (match asI u with | some s => (intsP us).map (s :: ·) | none => none) = some ns := h
  cases hi : asI u with
  | none => rw [hi] at h; exact nos h
  | some x =>
    rw [hi] at h
    (refine ob_EA (map_of h) fun l hl o1_ => ?_; subst o1_)
    exact ⟨x, l, asI_of hi, hl, rfl⟩
section
variable {C : Cx} {σ : Sg}
theorem VsRel.strs {us : List RV} : ∀ {vs : List Value} {ss : List Str}, VsRel C σ us vs → strsP us = some ss → StrsAre vs ss := by
  induction us with
  | nil =>
    intro z_ z_ h e
    rw [h.nil_inv]; cases e; exact .nil
  | cons u us ih_ =>
    intro z_ ss h e
    (refine ob_EEAA (h.cons_inv) fun v vs o1_ hv hr => ?_; subst o1_)
    (refine ob_EEAA (strsP_of e) fun x l o1_ hl o2_ => ?_; subst o1_; subst o2_)
    (refine ob_E (hv.str_inv) fun t o1_ => ?_; subst o1_)
    exact .cons x t (ih_ hr hl)
theorem VsRel.ints {us : List RV} : ∀ {vs : List Value} {ns : List Int}, VsRel C σ us vs → intsP us = some ns → IntsAre vs ns := by
  induction us with
  | nil =>
    intro z_ z_ h e
    rw [h.nil_inv]; cases e; exact .nil
  | cons u us ih_ =>
    intro z_ ns h e
    (refine ob_EEAA (h.cons_inv) fun v vs o1_ hv hr => ?_; subst o1_)
    (refine ob_EEAA (intsP_inv e) fun x l o1_ hl o2_ => ?_; subst o1_; subst o2_)
    (refine ob_E (hv.int_inv) fun t o1_ => ?_; subst o1_)
    exact .cons x t (ih_ hr hl)
theorem vs_strs : ∀ {vs : List Value} {ss : List Str}, StrsAre vs ss → VsRel C σ (ss.map RV.str) vs
  | _, _, .nil => .nil
  | _, _, .cons y t r => .cons (.str y t) (vs_strs r)
end
theorem strsP_len {us : List RV} : ∀ {ss : List Str}, strsP us = some ss → ss.length = us.length := by
  induction us with
  | nil =>
    intro z_ e
    cases e; rfl
  | cons u us ih_ =>
    intro ss e
    (refine ob_EEAA (strsP_of e) fun x l o1_ hl o2_ => ?_; subst o1_; subst o2_)
    simp [ih_ hl]
theorem minL_is {l : List Int} {k M : Int} (h : minL l = some k) (hm : M ∈ l) (hl : ∀ a, a ∈ l → M ≤ a) : M = k := by
  have aux : ∀ (r : List Int) (x : Int), (r.foldl (fun a b => if b < a then b else a) x) ∈ x :: r ∧ ∀ a ∈ x :: r, r.foldl (fun a b => if b < a then b else a) x ≤ a := by
    intro r
    induction r with
    | nil => intro x; simp
    | cons y r ih =>
      intro x
      refine ob_A (ih (if y < x then y else x)) fun i1 i2 => ?_
      rw [List.foldl_cons]
      refine ⟨?_, fun a ha => ?_⟩
      · rcases List.mem_cons.mp i1 with e | e
        · rw [e]
          by_cases h : y < x
          · rw [if_pos h]; exact .tail _ (.head _)
          · rw [if_neg h]; exact .head _
        · exact .tail _ (.tail _ e)
      · have b := i2 _ (.head _)
        rcases List.mem_cons.mp ha with rfl | ha
        · by_cases h : y < a
          · rw [if_pos h] at b ⊢; omega
          · rw [if_neg h] at b ⊢; exact b
        · rcases List.mem_cons.mp ha with rfl | ha
          · by_cases h : a < x
            · rw [if_pos h] at b ⊢; exact b
            · rw [if_neg h] at b ⊢; omega
          · exact i2 a (.tail _ ha)
  cases l with
  | nil => exact nos h
  | cons x r =>
    refine ob_A (aux r x) fun a1 a2 => ?_
    have e : r.foldl (fun a b => if b < a then b else a) x = k := Option.some.inj h
    rw [e] at a1 a2
    have := a2 M hm
    have := hl k a1
    omega
def leT (a b : Str) : Prop := a.cps.toList ≤ b.cps.toList
theorem leS_iff (a b : Str) : leS a b = true ↔ leT a b := by
  unfold leS leT
  simp only [Bool.not_eq_true', decide_eq_false_iff_not]
  exact List.not_lt
theorem leT_trans {a b c : Str} (x : leT a b) (y : leT b c) : leT a c := List.le_trans x y
theorem leT_total (a b : Str) : leT a b ∨ leT b a := List.le_total _ _
theorem leT_antisymm {a b : Str} (x : leT a b) (y : leT b a) : a = b := by
  have : a.cps.toList = b.cps.toList := List.le_antisymm x y
  obtain ⟨a⟩ := a; obtain ⟨b⟩ := b
  have : a = b := Array.toList_inj.mp this
  rw [this]
theorem insS_eq (x y : Str) (r : List Str) : insS x (y :: r) = if leS x y = true then x :: y :: r else y :: insS x r := rfl
theorem insS_perm (x : Str) : ∀ l, (insS x l).Perm (x :: l)
  | [] => .refl _
  | y :: r => by
    rw [insS_eq]
    by_cases h : leS x y = true
    · rw [if_pos h]
    · rw [if_neg h]; exact ((insS_perm x r).cons y).trans (.swap ..)
theorem sortS_perm : ∀ l, (sortS l).Perm l
  | [] => .refl _
  | x :: r => (insS_perm x (sortS r)).trans ((sortS_perm r).cons x)
theorem insS_sorted (x : Str) : ∀ l, l.Pairwise leT → (insS x l).Pairwise leT
  | [], _ => by simp [insS]
  | y :: r, h => by
    have h' := List.pairwise_cons.mp h
    rw [insS_eq]
    by_cases hl : leS x y = true
    · rw [if_pos hl]
      have hxy := (leS_iff x y).mp hl
      refine List.pairwise_cons.mpr ⟨fun z hz => ?_, h⟩
      rcases List.mem_cons.mp hz with rfl | hz
      · exact hxy
      · exact leT_trans hxy (h'.1 z hz)
    · rw [if_neg hl]
      have hyx : leT y x := by
        rcases leT_total x y with q | q
        · exact absurd ((leS_iff x y).mpr q) hl
        · exact q
      refine List.pairwise_cons.mpr ⟨fun z hz => ?_, insS_sorted x r h'.2⟩
      rcases List.mem_cons.mp ((insS_perm x r).mem_iff.mp hz) with rfl | hz
      · exact hyx
      · exact h'.1 z hz
theorem sortS_sorted : ∀ l, (sortS l).Pairwise leT
  | [] => .nil
  | x :: r => insS_sorted x _ (sortS_sorted r)
theorem rising_pairwise (l : List Str) : ∀ (p : Str), risingS p l = true → (p :: l).Pairwise leT := by
  induction l with
  | nil =>
    intro p z_
    simp
  | cons x r ih_ =>
    intro p h
    simp only [risingS, Bool.and_eq_true, Bool.not_eq_true', ltCps_eq, decide_eq_false_iff_not] at h
    have ih := ih_ x h.2
    have hp : leT p x := List.not_lt.mp h.1
    refine List.pairwise_cons.mpr ⟨fun z hz => ?_, ih⟩
    rcases List.mem_cons.mp hz with rfl | hz
    · exact hp
    · exact leT_trans hp ((List.pairwise_cons.mp ih).1 z hz)
theorem sort_uniq {l l' : List Str} (hp : l'.Perm l) (hs : sortedS l' = true) : l' = sortS l := by
  refine List.Perm.eq_of_pairwise (le := leT) (fun a b z_ z_ => leT_antisymm) ?_ (sortS_sorted l) (hp.trans (sortS_perm l).symm)
  cases l' with
  | nil => exact .nil
  | cons x r => exact rising_pairwise r x hs
section
variable {C : Cx} {F : Fm} {m : Str → Option Value} {σ σ' : Sg} {Q : PV} {a : Addr} {i : Nat}
theorem lst_idle (vs : List Value) (n : Nat) : idle (lstO vs n) := ⟨by simp, by simp, by simp⟩
theorem sorted_list {us : List RV} {ss : List Str} (r : Rel C F m σ) (hi : σ.H[i]? = some (.list us)) (ha : adr σ.ad i = some a) (hs : strsP us = some ss) (h64 : ss.length < 64) (hw : Q (.ref σ.H.length) (σ.H ++ [.list ((sortS ss).map .str)])) :
    Ev C F m σ (call (.builtin "sorted") [.ref a]) (EP C Q) := by
  intro P E hP
  refine ob_EEAA (r.listAt hi ha) fun vs n R1 z_ g => ?_
  have hS := R1.strs hs
  have hl := R1.length
  have hl2 := strsP_len hs
  refine sorted_N_str r.fr news_others (isList_of g) hS (by omega) fun h' vs' ss' e F' N' hS' hp' hs' => ?_
  have e1 := sort_uniq hp' hs'
  subst e1
  have z := N' _ (.head _)
  exact Ev.laid r (o := lstO vs' e) (k := σ.s.toks) F' (but_of r F' fun p hp => N' p (.tail _ hp)) (up_none (Nat.le_succ _)) z.2.1 z.2.2 z.1 (lst_idle _ _) hw (fun σ' c g => .list g (vs_strs hS')) hP
theorem strs_of_get : ∀ {vs : List Value} {ss : List Str}, vs.length = ss.length → (∀ (j : Nat) (v : Value), vs[j]? = some v → ∃ x t, ss[j]? = some x ∧ v = .str x t) → StrsAre vs ss
  | [], [], _, _ => .nil
  | [], _ :: _, h, _ => by simp at h
  | _ :: _, [], h, _ => by simp at h
  | v :: vs, x :: ss, hl, h => by
    (refine ob_EEA (h 0 v rfl) fun y t h1 o1_ => ?_; subst o1_)
    simp at h1
    subst h1
    exact .cons _ t (strs_of_get (by simpa using hl) fun j v e => by simpa using h (j + 1) v (by simpa using e))
end
theorem one_of {args : List RV} {k : RV → Prop} (h : onewp args k) : ∃ v, args = [v] ∧ k v := by
  cases args with
  | nil => exact h.elim
  | cons v r => cases r with
    | nil => exact ⟨v, rfl, h⟩
    | cons _ _ => exact h.elim
theorem rangeSize_one {a b : Int} : Builtin.Range.rangeSize a b 1 = ((b - a).toNat : Int) := by
  unfold Builtin.Range.rangeSize
  rw [if_pos (by decide)]
  by_cases h : a < b
  · rw [if_pos h, Int.ediv_one]; omega
  · rw [if_neg h]; omega
section
variable {C : Cx} {F : Fm} {m : Str → Option Value} {σ σ' : Sg} {Q : PV} {x : RV} {u : Value} {args : List RV} {vals : List Value}
set_option tactic.hygienic true in
theorem len_ok {k : Nat} (a : Act C F) (r : Rel C F m σ) (hv : VRel C σ x u) (hk : lenR σ.H x = some k) (hf : fitN k) (hw : Q (.int k) σ.H) : Ev C F m σ (call (.builtin "len") [u]) (EP C Q) := by
  intro P E hP
  have hK := a.inK r
  have hf : (k : Int) < 2 ^ 63 := by have h : k < 2 ^ 63 := hf; omega
  have lst : ∀ {a' : Addr} {us : List RV} {vs : List Value}, VsRel C σ us vs → σ.h.IsList a' vs.toArray → us.length = k → wpAny C.M F.A (call (.builtin "len") [.ref a']) P E σ.s := fun R hL e => by
    rw [R.length] at e
    refine len_list hL (by simp only [List.size_toArray]; omega) ?_
    have := Ev.tok r hw (.int _ (σ.s.toks + 1)) (k := σ.s.toks + 1 + 1) hP
    rw [← e] at this; simpa using this
  cases x <;> first | exact nos hk | skip
  case str z =>
    cases hk
    (refine ob_E (hv.str_inv) fun t o1_ => ?_; subst o1_)
    exact _root_.PySem.P.len_str (by omega) (Ev.tok r hw (.int _ _) hP)
  case tup us =>
    have e : us.length = k := Option.some.inj hk
    (refine ob_EEEAA (hv.tup_at hK) fun a' vs n o1_ g R => ?_; subst o1_)
    rw [R.length] at e
    refine len_tuple (items := vs.toArray) ⟨_, g, rfl, n, rfl⟩ (by simp only [List.size_toArray]; omega) ?_
    have := Ev.tok r hw (.int _ (σ.s.toks + 1)) (k := σ.s.toks + 1 + 1) hP
    rw [← e] at this; simpa using this
  case sset ss =>
    have e : ss.length = k := Option.some.inj hk
    cases hv with
    | sset i hc ho =>
      (revert ho; refine ob_AEEEAAr fun hex es ep t hd hf' hn => ?_)
      rw [← hn] at e
      refine call_len_set i.2 hex hd hf' (by rw [e]; exact hf) ?_
      rw [e]
      exact Ev.tok r hw (.int _ _) hP
  case rng x y c =>
    refine ob_A (if_of (show (if c = 1 then some (y - x).toNat else none) = some k from hk)) fun e1 e => ?_
    subst e1
    (refine ob_EEEEA (hv.rng_inv) fun a' t v z o1_ fz => ?_; subst o1_)
    refine call_len_range fz.2 rangeSize_one (by rw [e]; exact hf) ?_
    rw [e]
    exact Ev.tok r hw (.int _ _) hP
  case arg us =>
    cases hv with
    | arg i hc hd R =>
      rename_i a' vs o n
      exact lst R ⟨_, hK _ _ i, hc, n, hd⟩ (Option.some.inj hk)
  case ref i =>
    refine ob_EA (bind_of (show (σ.H[i]?).bind lenO = some k from hk)) fun o ho hk => ?_
    (refine ob_EA (hv.ref_inv) fun a' o1_ ha => ?_; subst o1_)
    cases o with
    | list us =>
      refine ob_EEAA (r.listAt ho ha) fun vs n R1 z_ g => ?_
      exact lst R1 (isList_of g) (Option.some.inj hk)
    | dict es n =>
      have e : es.length = k := Option.some.inj hk
      refine ob_EAAA (r.dictAt ho ha) fun ds R1 nd hb g => ?_
      rw [R1.length] at e
      have hkl : (kvsOf ds).length = k := by rw [← e]; simp [kvsOf]
      refine call_len_dict (a.notMods r (r.low a' (mem_own hb (.head _))).1) (dict_of R1 nd g) (by rw [hkl]; exact hf) ?_
      rw [hkl]
      exact Ev.tok r hw (.int _ _) hP
    | set es n t =>
      have e : es.length = k := Option.some.inj hk
      refine ob_EAAA (r.setAt ho ha) fun vs g R1 f hb => ?_
      rw [R1.len] at e
      have e' : vs.toArray.size = k := by rw [List.size_toArray]; exact e
      refine call_len_set g ⟨rfl, rfl, rfl⟩ rfl (by rw [List.size_toArray]; exact f) (by rw [e']; exact hf) ?_
      rw [e']
      exact Ev.tok r hw (.int _ _) hP
    | inst c fs => exact nos hk
    | tab b => exact nos hk
theorem ints_args {args : List RV} : ∀ {vals : List Value} {l : List Int}, VsRel C σ args vals → intsP args = some l → ∃ ts : List Tok, vals = List.zipWith (fun i t => Value.int i t) l ts ∧ ts.length = l.length := by
  induction args with
  | nil =>
    intro z_ z_ h e
    rw [h.nil_inv]; cases e; exact ⟨[], rfl, rfl⟩
  | cons a args ih_ =>
    intro z_ z_ h e
    (refine ob_EEAA (h.cons_inv) fun v vs o1_ hv hr => ?_; subst o1_)
    (refine ob_EEAA (intsP_inv e) fun x l o1_ hl o2_ => ?_; subst o1_; subst o2_)
    (refine ob_E (hv.int_inv) fun t o1_ => ?_; subst o1_)
    (refine ob_EA (ih_ hr hl) fun ts o1_ e => ?_; subst o1_)
    exact ⟨t :: ts, rfl, by simp [e]⟩
theorem two_ints {i j : Int} (hv : VsRel C σ args vals) (h : intsP args = some [i, j]) : ∃ t t', vals = [.int i t, .int j t'] := by
  (refine ob_EA (ints_args hv h) fun ts o1_ e => ?_; subst o1_)
  match ts, e with
  | [t, t'], _ => exact ⟨t, t', rfl⟩
theorem cases_ints {o : Option (List Int)} {k2 : Int → Int → Prop} {k3 : Int → Int → Int → Prop} {k : Prop} (h : match o with | some [a, b] => k2 a b | some [a, b, c] => k3 a b c | _ => k) :
    (∃ a b, o = some [a, b] ∧ k2 a b) ∨ (∃ a b c, o = some [a, b, c] ∧ k3 a b c) ∨ k := by
  match o, h with
  | some [a, b], h => exact .inl ⟨a, b, rfl, h⟩
  | some [a, b, c], h => exact .inr (.inl ⟨a, b, c, rfl, h⟩)
  | some [], h => exact .inr (.inr h)
  | some [_], h => exact .inr (.inr h)
  | some (_ :: _ :: _ :: _ :: _), h => exact .inr (.inr h)
  | none, h => exact .inr (.inr h)
theorem min_ok (a : Act C F) (r : Rel C F m σ) (hv : VsRel C σ args vals) (hw : biwp "min" args σ.H Q) : Ev C F m σ (call (.builtin "min") vals) (EP C Q) := by
  intro P E hP
  have hw : (match intsP args with
      | some [a, b] => Q (.int (if b < a then b else a)) σ.H
      | _ => onewp args fun v => optwp ((intsIn σ.H v).bind minL) fun m => Q (.int m) σ.H) := hw
  have hw : (∃ i j, intsP args = some [i, j] ∧ Q (.int (if j < i then j else i)) σ.H) ∨ onewp args fun v => optwp ((intsIn σ.H v).bind minL) fun m => Q (.int m) σ.H := by
    match intsP args, hw with
    | some [a, b], h => exact .inl ⟨a, b, rfl, h⟩
    | some [], h => exact .inr h
    | some [_], h => exact .inr h
    | some (_ :: _ :: _ :: _), h => exact .inr h
    | none, h => exact .inr h
  rcases hw with ⟨i, j, h, hw⟩ | hw
  · (refine ob_EE (two_ints hv h) fun t t' o1_ => ?_; subst o1_)
    refine min_two_ints a.hd fun h' tk hk => ?_
    have e : (if j < i then Value.int j t' else Value.int i t) = .int (if j < i then j else i) (if j < i then t' else t) := by
      by_cases h : j < i
      · simp [h]
      · simp [h]
    rw [e]
    exact Ev.keeps r hw (.int _ _) hk hP
  · (refine ob_EA (one_of hw) fun v o1_ hw => ?_; subst o1_)
    (refine ob_EA (hv.one_inv) fun u o1_ hu => ?_; subst o1_)
    refine ob_EA (opt_of hw) fun k hk hw => ?_
    refine ob_EA (bind_of hk) fun l hl hk => ?_
    refine ob_EA (bind_of hl) fun p hp hl => ?_
    refine ob_A (lstAt_of hp) fun e hi => ?_
    rw [e] at hu
    (refine ob_EA (hu.ref_inv) fun a' o1_ ha => ?_; subst o1_)
    refine ob_EEAA (r.listAt hi ha) fun vs n R1 z_ g => ?_
    have hne : 0 < l.length := by
      cases l with
      | nil => exact nos hk
      | cons _ _ => simp
    refine min_list_N a.hd r.fr news_others (isList_of g) (R1.ints hl) hne fun h' M t tk F' N' hm hl' => ?_
    rw [minL_is hk hm hl']
    exact Ev.keepsL r hw (.int _ _) F' (but_of r F' N') hP
theorem bi_ok {x : String} (a : Act C F) (r : Rel C F m σ) (hv : VsRel C σ args vals) (hw : biwp x args σ.H Q) : Ev C F m σ (call (.builtin x) vals) (EP C Q) := by
  by_cases h1 : x = "len"
  · subst h1
    (refine ob_EA (one_of (show onewp args fun v => optwp (lenR σ.H v) fun n => fitN n ∧ Q (.int n) σ.H from hw)) fun v o1_ hw => ?_; subst o1_)
    (refine ob_EA (hv.one_inv) fun u o1_ hu => ?_; subst o1_)
    refine ob_EA (opt_of hw) fun k hk hw => ?_
    exact len_ok a r hu hk hw.1 hw.2
  by_cases h3 : x = "sorted"
  · subst h3
    (refine ob_EA (one_of (show onewp args fun v => optwp (strsIn σ.H v) fun l => l.length < 64 ∧ mkLwp σ.H Q ((sortS l).map .str) from hw)) fun v o1_ hw => ?_; subst o1_)
    (refine ob_EA (hv.one_inv) fun u o1_ hu => ?_; subst o1_)
    refine ob_EA (opt_of hw) fun l hl hw => ?_
    refine ob_EA (bind_of hl) fun p hp hl => ?_
    refine ob_A (obAt_of hp) fun e hi => ?_
    rw [e] at hu
    (refine ob_EA (hu.ref_inv) fun a' o1_ ha => ?_; subst o1_)
    obtain ⟨i, o⟩ := p
    cases o with
    | list us => exact sorted_list r hi ha hl hw.1 hw.2
    | dict es n => exact nos hl
    | set es n t => exact nos hl
    | inst c fs => exact nos hl
    | tab b => exact nos hl
  by_cases h4 : x = "sum"
  · subst h4
    (refine ob_EA (one_of (show onewp args fun v => optwp (intsIn σ.H v) fun l => Q (.int l.sum) σ.H from hw)) fun v o1_ hw => ?_; subst o1_)
    (refine ob_EA (hv.one_inv) fun u o1_ hu => ?_; subst o1_)
    refine ob_EA (opt_of hw) fun l hl hw => ?_
    refine ob_EA (bind_of hl) fun p hp hl => ?_
    refine ob_A (lstAt_of hp) fun e hi => ?_
    rw [e] at hu
    (refine ob_EA (hu.ref_inv) fun a' o1_ ha => ?_; subst o1_)
    refine ob_EEAA (r.listAt hi ha) fun vs n R1 z_ g => ?_
    intro P E hP
    refine LSm.sum_ints r.fr news_others a.hd (isList_of g) (R1.ints hl) fun h' tk t' F' N' => ?_
    exact Ev.keepsL r hw (.int _ _) F' (but_of r F' N') hP
  by_cases h6 : x = "min"
  · subst h6; exact min_ok a r hv hw
  unfold biwp at hw
  rw [if_neg h1, if_neg h3, if_neg h4, if_neg h6] at hw
  exact hw.elim
end
section
variable {prog : Program} {w : World} {A : Around} {s : Shared} {E : Value → Shared → Prop}
theorem entry_set_loop : entryFor table "set.update.loop" = some Builtin.«set.update.loop» := entryFor_of_fast (by kernel_rfl)
theorem plain_set_loop : plainId "set.update.loop" = true := by decide +kernel
theorem set_add_N {D : Addr} {S : Str → Bool} {n : Nat} {x : Str} {t : Tok} {Q : Bool → Shared → Prop} (hS : s.heap.SetOf (PySem.strKind prog w) D S n) (hroom : n + 1 < scanBound)
    (h : ∀ b h', Heap.SameBut D s.heap h' → h'.SetOf (PySem.strKind prog w) D (fun k' => S k' || decide (k' = x)) (if S x then n else n + 1) → Q b { s with heap := h', toks := s.toks + 1 }) :
    wpAny (model prog w) A (setAdd D (.str x t)) Q E s := by
  unfold setAdd
  refine wpAny_holding ?_
  refine wpAny_bind ((PySem.strKind prog w).pyHash (strKind_is prog w x t) ?_)
  exact wpAny_setAddHashed_of (s := { s with toks := s.toks + 1 }) (strKind_is prog w x t) rfl hS hroom fun h' hsb hS' => h _ h' hsb hS'
theorem set_loop {I D l : Addr} {R : Result → Shared → Prop} (hh : A.handled = none) (hDI : D ≠ I) (hlI : l ≠ I) (hlD : l ≠ D) {items : List Value} {ss : List Str} (hSt : StrsAre items ss) (hb : ss.length < 4000) :
    ∀ (k i : Nat) (s : Shared) (acc : List Str), items.length - i = k → i ≤ items.length → acc.length ≤ i → s.heap.IsListIter I l i → s.heap.IsList l items.toArray → s.heap.SetOf (PySem.strKind prog w) D (fun k => acc.contains k) acc.length →
    (∀ h' tk, (∀ b o, b ≠ I → b ≠ D → s.heap.get? b = some o → h'.get? b = some o) → h'.SetOf (PySem.strKind prog w) D (fun k => (nubA acc (ss.drop i)).contains k) (nubA acc (ss.drop i)).length → R (.ok (.ret .none)) { s with heap := h', toks := tk }) →
    codeAny (model prog w) A (.builtin "set.update.loop" ⟨[.ref D, .ref I], []⟩) R s := by
  have hlen : items.length = ss.length := StrsAre.length hSt
  intro k
  induction k with
  | zero =>
    intro i s acc hk hi hac hit hl hS hR
    refine codeAny_builtin entry_set_loop ?_
    rw [Around.under_plainId plain_set_loop _]
    show wpAny _ A.in1 (pyNext (.ref I) >>= _) _ _ s
    refine wpAny_bind (wpAny_pyNext_list_end hh hit hl (by simp; omega) fun h' he => wpAny_pure ?_)
    have := hR h' s.toks (fun b o hb z_ e => he b o hb e)
    rw [List.drop_of_length_le (by omega)] at this
    refine this ?_
    (revert hS; refine ob_EEEEAr fun o es ep t g r => ?_)
    exact ⟨o, es, ep, t, he D o hDI g, r⟩
  | succ k ih =>
    intro i s acc hk hi hac hit hl hS hR
    have hlt : i < ss.length := by omega
    refine ob_E ((⟨_, List.getElem?_eq_getElem (by omega)⟩ : ∃ v, items[i]? = some v)) fun v hv => ?_
    obtain ⟨x, t, rfl, hx⟩ : ∃ x t, v = .str x t ∧ ss[i]? = some x := by
      have e1 := hSt.strs
      (refine ob_EE (hSt.all v (List.mem_of_getElem? hv)) fun x t o1_ => ?_; subst o1_)
      refine ⟨x, t, rfl, ?_⟩
      rw [← e1, List.getElem?_map, hv]; rfl
    have hd : ss.drop i = x :: ss.drop (i + 1) := by
      rw [List.drop_eq_getElem_cons hlt]
      rw [List.getElem?_eq_getElem hlt] at hx
      simp at hx
      rw [hx]
    refine codeAny_builtin entry_set_loop ?_
    rw [Around.under_plainId plain_set_loop _]
    show wpAny _ A.in1 (pyNext (.ref I) >>= _) _ _ s
    refine wpAny_bind (wpAny_pyNext_list_item hit hl (by simpa using hv) fun h₁ hit₁ hs₁ => ?_)
    have hS₁ : h₁.SetOf (PySem.strKind prog w) D (fun k => acc.contains k) acc.length := by
      (revert hS; refine ob_EEEEAr fun o es ep t g r => ?_)
      exact ⟨o, es, ep, t, (hs₁.2 D hDI).trans g, r⟩
    refine wpAny_bind (wpAny_holding (set_add_N (s := { s with heap := h₁ }) hS₁ (by show acc.length + 1 < 4096; omega) fun b h₂ hs₂ hS₂ => ?_))
    refine wpAny_pure ⟨plainId_quiet plain_set_loop _, ?_⟩
    refine ih (i + 1) _ (if acc.contains x then acc else acc ++ [x]) (by omega) (by omega) (by by_cases hc : acc.contains x = true <;> simp only [hc, if_true, Bool.false_eq_true, if_false, List.length_append, List.length_cons, List.length_nil] <;> omega) ?_ ?_ ?_ ?_
    · exact hit₁.extBut hs₂.extBut (fun e => hDI e.symm)
    · exact (hl.extBut hs₁.extBut hlI).extBut hs₂.extBut hlD
    · have e1 : (fun k' => acc.contains k' || decide (k' = x)) = fun k' => (if acc.contains x then acc else acc ++ [x]).contains k' := by
        funext k'
        by_cases hc : acc.contains x = true
        · rw [if_pos hc]
          by_cases hk : k' = x
          · subst hk; rw [hc]; rfl
          · rw [decide_eq_false hk, Bool.or_false]
        · rw [if_neg hc]
          rw [Bool.eq_iff_iff]
          simp only [Bool.or_eq_true, decide_eq_true_eq, List.contains_iff_mem, List.mem_append, List.mem_singleton]
      have e2 : (if acc.contains x then acc.length else acc.length + 1) = (if acc.contains x then acc else acc ++ [x]).length := by
        by_cases hc : acc.contains x = true
        · rw [if_pos hc, if_pos hc]
        · rw [if_neg hc, if_neg hc, List.length_append]; rfl
      rw [← e1, ← e2]
      exact hS₂
    · intro h' tk hk' hS'
      have := hR h' tk (fun b o hbI hbD e => hk' b o hbI hbD (hs₂.extBut b o hbD (hs₁.extBut b o hbI e)))
      rw [hd] at this
      exact this hS'
end
theorem typeCall_set_1 (a : Value) : checkTypeCall "set" ⟨[a], []⟩ = pure () := by kernel_rfl
theorem newCall_set_1 (a : Value) : checkBuiltinCall "set.__new__" ⟨[.type "set", a], []⟩ = pure () := by kernel_rfl
section
variable {prog : Program} {w : World} {A : Around} {E : Value → Shared → Prop} {s : Shared}
theorem code_set_new1 {args : List Value} {Q₁ : Value → Shared → Prop} (hck : checkBuiltinCall "set.__new__" ⟨.type "set" :: args, []⟩ = pure ())
    (h : Q₁ (.ref s.heap.objs.size) { s with heap := s.heap.push { cls := .type "set", dict := none, data := .set #[] 0 (.fresh 0 0 (!w.params.followText "set-order")) } }) :
    codeAny (model prog w) A (.call (.builtin "set.__new__") ⟨.type "set" :: args, []⟩) (wants Q₁ E) s := by
  refine codeAny_of_tree ?_
  show wpAny _ A.in1 (do checkBuiltinCall "set.__new__" ⟨.type "set" :: args, []⟩; again (.builtin "set.__new__" ⟨.type "set" :: args, []⟩)) _ _ s
  refine wpAny_bind (wpAny_of_eq hck (wpAny_pure ⟨plainId_quiet PySem.F.plain_set_new _, codeAny_builtin PySem.F.entry_set_new ?_⟩))
  rw [Around.under_plainId PySem.F.plain_set_new _]
  unfold Builtin.«set.__new__» Builtin.Frozenset.newClass
  have hsub := sub_set_self
  obtain ⟨hp, g, d, tk, os⟩ := s
  dsimp only
  wp_walk
  refine wpAny_askSetting (wpAny_pure ?_)
  dsimp only
  simp only [newObj]
  refine wpAny_bind (wpAny_alloc (wpAny_pure ?_))
  exact wpAny_pure h
set_option maxHeartbeats 1000000 in
theorem call_set_new {Q : Value → Shared → Prop} (h : Q (.ref s.heap.objs.size) { s with heap := s.heap.push { cls := .type "set", dict := none, data := .set #[] 0 (.fresh 0 0 (!w.params.followText "set-order")) } }) :
    wpAny (model prog w) A (call (.type "set") []) Q E s := by
  refine ob_EE (PySem.F.called_set.mro) fun c tl hmro => ?_
  have hmade := PySem.F.called_set.made
  have hsub := PySem.F.called_set.sub
  refine wpAny_call (codeAny_of_tree ?_)
  show wpAny _ _ (callAny (.type "set") _) _ _ _
  refine wpAny_pure ⟨Code.quiet_builtin _ (by decide +kernel), codeAny_builtin PySem.F.entry_type_call ?_⟩
  rw [Around.under_plain (weight_type_call_type "set" [] []) rfl]
  have h1 := PySem.F.called_set.notType
  have h2 := PySem.F.called_set.canCreate
  have hct := PySem.F.typeCall_set_0
  repeat (any_goals (first | assumption | wp_step))
  refine codeAny_mono (code_set_new1 PySem.F.newCall_set_0 (E := E) (Q₁ := fun obj s₁ => obj = .ref s.heap.objs.size ∧ s₁ = { s with heap := s.heap.push { cls := .type "set", dict := none, data := .set #[] 0 (.fresh 0 0 (!w.params.followText "set-order")) } }) ⟨rfl, rfl⟩) fun r s₁ hr => ?_
  cases r with
  | error e => exact hr
  | ok fl =>
    cases fl with
    | ret obj =>
      (revert hr; refine ob_Ar fun o1_ o2_ => ?_; subst o1_; subst o2_)
      have hT : Shared.TypeIs { s with heap := s.heap.push { cls := .type "set", dict := none, data := .set #[] 0 (.fresh 0 0 (!w.params.followText "set-order")) } } (.ref s.heap.objs.size) "set" := ⟨_, Heap.get?_push_size _ rfl, rfl⟩
      have hli := PySem.F.called_set.init.lookup
      have hbi := PySem.F.called_set.init.bind (.ref s.heap.objs.size)
      repeat (any_goals (first | assumption | wp_step))
      refine codeAny_mono (codeAny_call_builtin (R := wants (fun r s₂ => r = .none ∧ Q (.ref s.heap.objs.size) s₂) E) PySem.F.called_set.init.plain PySem.F.entry_set_init (check_set_init hT ?_)) fun r₂ s₂ hr₂ => ?_
      · unfold Builtin.«set.__init__» noKeywords
        wp_walk
        exact ⟨rfl, h⟩
      · cases r₂ with
        | error e => exact hr₂
        | ok fl₂ =>
          cases fl₂ with
          | ret r =>
            (revert hr₂; refine ob_Ar fun o1_ hq => ?_; subst o1_)
            repeat (any_goals (first | assumption | wp_step))
          | _ => exact hr₂.elim
    | _ => exact hr.elim
theorem check_set_init1 {M : Model} {self a : Value} {Q : Unit → Shared → Prop} (hT : s.TypeIs self "set") (hQ : Q () s) :
    wpAny M A (checkBuiltinCall "set.__init__" ⟨[self, a], []⟩) Q E s := by
  simp only [checkBuiltinCall, kind_set_init, split_set_init, sig_set_init]
  refine wpAny_bind (wpAny_isInstance hT sub_set_self ?_)
  simp only [Bool.not_true, Bool.false_eq_true, if_false]
  unfold Bind.checkArgs
  dsimp only
  refine wpAny_bind (m := Bind.printed "set" true _ _) (PyProof.Rows.printed_name (by decide) ?_)
  refine wpAny_bind (m := Bind.printed "*" false _ _) (PyProof.Rows.printed_star (self := self) rfl hT fun short => ?_)
  have hrn : (Manifest.Receiver.self == Manifest.Receiver.none) = false := by decide
  have hn : (if (Manifest.Receiver.self == Manifest.Receiver.none) = true then [self, a].length else [self, a].length - 1) = 1 := by simp [hrn]
  rw [hn]
  simp only [List.map_nil]
  have hc : Bind.check ⟨.positional, "set", "*", .self, [⟨"iterable", .posOnly, false⟩]⟩ "set" short 1 [] = pure () := by
    simp [Bind.check, Bind.checkCount, Bind.isPositional]
    intro h
    exact absurd h (by decide)
  rw [hc]
  exact wpAny_pure hQ
set_option maxHeartbeats 1000000 in
theorem call_set_strs {l : Addr} {items : List Value} {ss : List Str} {Q : Value → Shared → Prop} (hh : A.handled = none) (hl : s.heap.IsList l items.toArray) (hS : StrsAre items ss) (hb : ss.length < 4000)
    (h : ∀ D o h' tk, h'.get? D = some o → s.heap.objs.size ≤ D → (∀ b o', s.heap.get? b = some o' → h'.get? b = some o') → SsObj o (nubS ss) → o.cls = .type "set" → Q (.ref D) { s with heap := h', toks := tk }) :
    wpAny (model prog w) A (call (.type "set") [.ref l]) Q E s := by
  refine ob_EE (PySem.F.called_set.mro) fun c tl hmro => ?_
  have hmade := PySem.F.called_set.made
  have hsub := PySem.F.called_set.sub
  refine wpAny_call (codeAny_of_tree ?_)
  show wpAny _ _ (callAny (.type "set") _) _ _ _
  refine wpAny_pure ⟨Code.quiet_builtin _ (by decide +kernel), codeAny_builtin PySem.F.entry_type_call ?_⟩
  rw [Around.under_plain (weight_type_call_type "set" [.ref l] []) rfl]
  have h1 := PySem.F.called_set.notType
  have h2 := PySem.F.called_set.canCreate
  have hct := typeCall_set_1 (.ref l)
  repeat (any_goals (first | assumption | wp_step))
  refine codeAny_mono (code_set_new1 (newCall_set_1 _) (E := E) (Q₁ := fun obj s₁ => ∃ led : Bool, obj = .ref s.heap.objs.size ∧ s₁ = { s with heap := s.heap.push { cls := .type "set", dict := none, data := .set #[] 0 (.fresh 0 0 led) } }) ⟨_, rfl, rfl⟩) fun r s₁ hr => ?_
  cases r with
  | error e => exact hr
  | ok fl =>
    cases fl with
    | ret obj =>
      (revert hr; refine ob_EAr fun led o1_ o2_ => ?_; subst o1_; subst o2_)
      have hSg : (s.heap.push { cls := .type "set", dict := none, data := .set #[] 0 (.fresh 0 0 led) }).get? s.heap.objs.size = some { cls := .type "set", dict := none, data := .set #[] 0 (.fresh 0 0 led) } := Heap.get?_push_size _ rfl
      have hT : Shared.TypeIs { s with heap := s.heap.push { cls := .type "set", dict := none, data := .set #[] 0 (.fresh 0 0 led) } } (.ref s.heap.objs.size) "set" := ⟨_, hSg, rfl⟩
      have hli := PySem.F.called_set.init.lookup
      have hbi := PySem.F.called_set.init.bind (.ref s.heap.objs.size)
      repeat (any_goals (first | assumption | wp_step))
      refine codeAny_mono (codeAny_call_builtin (R := wants (fun r s₂ => r = .none ∧ Q (.ref s.heap.objs.size) s₂) E) PySem.F.called_set.init.plain PySem.F.entry_set_init (check_set_init1 hT ?_)) fun r₂ s₂ hr₂ => ?_
      · unfold Builtin.«set.__init__» noKeywords
        wp_walk
        refine ob_EAAE (id hl) fun ol hol hcl kl hdl => ?_
        have hol' : (s.heap.push { cls := .type "set", dict := none, data := .set #[] 0 (.fresh 0 0 led) }).get? l = some ol := Heap.get?_push_of_some _ hol
        have hsl1 := PySem.F.sub_list_set
        have hsl2 := PySem.F.sub_list_frozenset
        have hTl : Shared.TypeIs { s with heap := s.heap.push { cls := .type "set", dict := none, data := .set #[] 0 (.fresh 0 0 led) } } (.ref l) "list" := ⟨ol, hol', hcl⟩
        wp_walk using wpAny_loadPart' hol', wpAny_typeOf hTl
        rw [hcl]
        refine wpAny_of_eq hsl1 ?_
        show wpAny _ _ (isInstance (.ref l) (.type "frozenset")) _ _ _
        refine wpAny_isInstance hTl hsl2 ?_
        simp only [Bool.false_eq_true, if_false]
        refine wpAny_bind (wpAny_typeOf hTl ?_)
        have hne : (Value.type "list" == Value.type "dict") = false := by decide
        rw [hne]
        simp only [Bool.false_eq_true, if_false]
        have hl1 : (s.heap.push { cls := .type "set", dict := none, data := .set #[] 0 (.fresh 0 0 led) }).IsList l items.toArray := ⟨ol, hol', hcl, kl, hdl⟩
        refine wpAny_bind (wpAny_pyIter_list hl1 ?_)
        have ll := Heap.lt_size hol
        generalize hH1 : s.heap.push { cls := .type "set", dict := none, data := .set #[] 0 (.fresh 0 0 led) } = H1 at *
        have sz : H1.objs.size = s.heap.objs.size + 1 := by rw [← hH1, Heap.size_push]
        have hI : (H1.push { cls := .type "list_iterator", data := .fields #[.ref l, .int 0 0] }).IsListIter H1.objs.size l 0 := ⟨_, Heap.get?_push_size _ rfl, rfl, rfl⟩
        have hl2 : (H1.push { cls := .type "list_iterator", data := .fields #[.ref l, .int 0 0] }).IsList l items.toArray := ⟨ol, Heap.get?_push_of_some _ hol', hcl, kl, hdl⟩
        have hS2 : (H1.push { cls := .type "list_iterator", data := .fields #[.ref l, .int 0 0] }).SetOf (PySem.strKind prog w) s.heap.objs.size (fun k => ([] : List Str).contains k) ([] : List Str).length :=
          ⟨_, #[], 0, _, Heap.get?_push_of_some _ hSg, ⟨rfl, rfl, rfl⟩, rfl, (fun e he => by simp at he), (fun k => by simp), by decide, by cases led <;> rfl, rfl⟩
        refine wpAny_bind (wpAny_runValue (set_loop (prog := prog) (w := w) (A := A.in1.in1) (I := H1.objs.size) (D := s.heap.objs.size) (l := l) hh (by rw [sz]; exact Nat.ne_of_lt (Nat.lt_succ_self _)) (by rw [sz]; exact Nat.ne_of_lt (Nat.lt_succ_of_lt ll)) (Nat.ne_of_lt ll) hS hb items.length 0 _ [] rfl (Nat.zero_le _) (Nat.zero_le _) hI hl2 hS2 fun h' tk hk hS' => ?_))
        (revert hS'; refine ob_EEEEAAAAAAAr fun o es ep t g hex hd z_ z_ z_ hf hn => ?_)
        refine wpAny_pure (wpAny_pure ⟨rfl, h s.heap.objs.size o h' tk g (Nat.le_refl _) (fun b o' e => ?_) ⟨hex, es, ep, t, hd, hf, by simpa [nubS] using hn⟩ hex.1⟩)
        have lb := Heap.lt_size e
        refine hk b o' (by rw [sz]; exact Nat.ne_of_lt (Nat.lt_succ_of_lt lb)) (Nat.ne_of_lt lb) (Heap.get?_push_of_some _ (hH1 ▸ Heap.get?_push_of_some _ e))
      · cases r₂ with
        | error e => exact hr₂
        | ok fl₂ =>
          cases fl₂ with
          | ret r =>
            (revert hr₂; refine ob_Ar fun o1_ hq => ?_; subst o1_)
            repeat (any_goals (first | assumption | wp_step))
          | _ => exact hr₂.elim
    | _ => exact hr.elim
end
theorem cases_rng {o : Option (List Int)} {k1 : Int → Prop} {k2 : Int → Int → Prop} (h : match o with | some [n] => k1 n | some [a, b] => k2 a b | _ => False) : (∃ n, o = some [n] ∧ k1 n) ∨ (∃ a b, o = some [a, b] ∧ k2 a b) := by
  match o, h with
  | some [a], h => exact .inl ⟨a, rfl, h⟩
  | some [a, b], h => exact .inr ⟨a, b, rfl, h⟩
theorem rngL_get {a b : Int} {i : Nat} : (rngL a b 1)[i]? = if (i : Int) < b - a then some (.int (a + i)) else none := by
  show (if (0 : Int) < 1 then (List.range ((b - a + 1 - 1) / 1).toNat).map (fun (k : Nat) => RV.int (a + 1 * (k : Int))) else [])[i]? = _
  rw [if_pos (by decide), List.getElem?_map]
  have e : ((b - a + 1 - 1) / 1).toNat = (b - a).toNat := by rw [Int.ediv_one]; congr 1; omega
  rw [e]
  by_cases h : (i : Int) < b - a
  · rw [if_pos h, List.getElem?_range (by omega)]; simp
  · rw [if_neg h, List.getElem?_eq_none (by simp; omega)]; rfl
theorem rngL_len {a b : Int} : (rngL a b 1).length = (b - a).toNat := by
  show (if (0 : Int) < 1 then (List.range ((b - a + 1 - 1) / 1).toNat).map (fun (k : Nat) => RV.int (a + 1 * (k : Int))) else []).length = _
  rw [if_pos (by decide), List.length_map, List.length_range, Int.ediv_one]
  congr 1; omega
section
variable {C : Cx} {F : Fm} {m : Str → Option Value} {σ σ' : Sg} {Q : PV} {args : List RV} {vals : List Value}
theorem vs_of_get : ∀ {us : List RV} {vs : List Value}, us.length = vs.length → (∀ (j : Nat) (u : RV) (v : Value), us[j]? = some u → vs[j]? = some v → VRel C σ u v) → VsRel C σ us vs
  | [], [], _, _ => .nil
  | [], _ :: _, h, _ => by simp at h
  | _ :: _, [], h, _ => by simp at h
  | u :: us, v :: vs, hl, h => .cons (h 0 u v rfl rfl) (vs_of_get (by simpa using hl) fun j u v e e' => h (j + 1) u v (by simpa using e) (by simpa using e'))
theorem range_ok (a : Act C F) (r : Rel C F m σ) (hv : VsRel C σ args vals) (hw : tywp "range" args σ.H Q) : Ev C F m σ (call (.type "range") vals) (EP C Q) := by
  intro P E hP
  have hw : (match intsP args with
    | some [n] => fitI n ∧ Q (.rng 0 n 1) σ.H
    | some [a, b] => fitI a ∧ fitI b ∧ Q (.rng a b 1) σ.H
    | _ => False) := hw
  rcases cases_rng hw with ⟨n, h, hw⟩ | ⟨i, j, h, hw⟩
  · (refine ob_EA (ints_args hv h) fun ts o1_ e => ?_; subst o1_)
    match ts, e with
    | [t], _ => exact call_range_1 (Ev.push r rfl hw.2 (fun σ' c z => .rng z) hP)
  · (refine ob_EE (two_ints hv h) fun t t' o1_ => ?_; subst o1_)
    exact call_range_2 (Ev.push r rfl hw.2.2 (fun σ' c z => .rng z) hP)
theorem set_ok (a : Act C F) (r : Rel C F m σ) (hv : VsRel C σ args vals) (hw : tywp "set" args σ.H Q) : Ev C F m σ (call (.type "set") vals) (EP C Q) := by
  intro P E hP
  cases args with
  | nil =>
    rw [hv.nil_inv]
    exact call_set_new (Ev.pushO r rfl hw (k := σ.s.toks) (fun σ' c z => .set (vs := []) z .nil rfl) hP)
  | cons x args =>
    refine ob_EA (one_of (show onewp (x :: args) fun v => optwp ((lstAt σ.H v).bind fun p => strsP p.2) fun l => l.length < 4000 ∧ Q (.sset (nubS l)) σ.H from hw)) fun v e hq => ?_
    clear hw
    cases e
    (refine ob_EA (hv.one_inv) fun u o1_ hu => ?_; subst o1_)
    refine ob_EA (opt_of hq) fun l hl hw => ?_
    refine ob_EA (bind_of hl) fun p hp hl' => ?_
    refine ob_A (lstAt_of hp) fun e hi => ?_
    rw [e] at hu
    (refine ob_EA (hu.ref_inv) fun a' o1_ ha => ?_; subst o1_)
    refine ob_EEAA (r.listAt hi ha) fun vs n R1 z_ g => ?_
    refine call_set_strs a.hd (isList_of g) (R1.strs hl') hw.1 fun D o h' tk g' hD hk ho hc => ?_
    exact hP _ (σ.at { σ.s with heap := h', toks := tk }) ⟨_, hw.2, .sset ⟨off_own r (up_none hD), g'⟩ hc ho⟩ (r.keep hk) (Nx.keep hk ⟨rfl, rfl, rfl⟩)
theorem tuple_ok (a : Act C F) (r : Rel C F m σ) (hv : VsRel C σ args vals) (hw : tywp "tuple" args σ.H Q) : Ev C F m σ (call (.type "tuple") vals) (EP C Q) := by
  intro P E hP
  obtain ⟨v, e, hq⟩ := one_of (show onewp args fun v => (match asT v with
      | some vs => Q (.tup vs) σ.H
      | none => optwp (lstAt σ.H v) fun p => p.2.length < 4000 ∧ Q (.tup p.2) σ.H) from hw)
  clear hw
  subst e
  have hw := hq
  clear hq
  (refine ob_EA (hv.one_inv) fun u o1_ hu => ?_; subst o1_)
  cases ht : asT v with
  | some us =>
    rw [ht] at hw
    rw [asT_of ht] at hu
    (refine ob_EEEAA (hu.tup_at (a.inK r)) fun a' vs n o1_ g R => ?_; subst o1_)
    exact call_tuple_same (items := vs.toArray) ⟨_, g, rfl, n, rfl⟩ (Ev.same r hw hu hP)
  | none =>
    rw [ht] at hw
    refine ob_EA (opt_of hw) fun p hp hw => ?_
    refine ob_A (lstAt_of hp) fun e hi => ?_
    rw [e] at hu
    (refine ob_EA (hu.ref_inv) fun a' o1_ ha => ?_; subst o1_)
    refine ob_EEAA (r.listAt hi ha) fun vs n R1 z_ g => ?_
    have hl := R1.length
    refine call_tuple_list (isList_of g) (fun h' hk => ?_) (by rw [sizeLine_eq]; simp only [List.size_toArray]; have := hw.1; omega)
    have r' : Rel C F m (σ.at { σ.s with heap := h' }) := r.keep hk
    exact Ev.push (σ := σ.at { σ.s with heap := h' }) (k := σ.s.toks) r' rfl hw.2 (fun σ' c z => .tup (vs := vs) (n := 0) z ((R1.mono (keep_carry (s' := { σ.s with heap := h' }) hk)).mono c)) fun x σ' q r n => hP x σ' q r ((Nx.keep (s' := { σ.s with heap := h' }) hk ⟨rfl, rfl, rfl⟩).trans n)
theorem ty_ok {x : String} (a : Act C F) (r : Rel C F m σ) (hv : VsRel C σ args vals) (hw : tywp x args σ.H Q) : Ev C F m σ (call (.type x) vals) (EP C Q) := by
  by_cases h1 : x = "range"
  · subst h1; exact range_ok a r hv hw
  by_cases h2 : x = "set"
  · subst h2; exact set_ok a r hv hw
  by_cases h3 : x = "tuple"
  · subst h3; exact tuple_ok a r hv hw
  unfold tywp at hw
  rw [if_neg h1, if_neg h2, if_neg h3] at hw
  exact hw.elim
end
section
variable {C : Cx} {F : Fm} {V : Vm} {m : Str → Option Value} {σ σ' : Sg} {U : UTy} {n : Nat} {Q : PV} {args : List RV} {vals : List Value} {rs : List RE} {E : Value → Shared → Prop}
abbrev Fm.under (F : Fm) (c : Code) : Fm := { F with A := F.A.under c }
theorem Rel.same {G : Fm} (r : Rel C F m σ) (h1 : G.h₀ = F.h₀) (h2 : G.L = F.L) : Rel C G m σ := ⟨by rw [h1, h2]; exact r.fr, r.nd, by rw [h1, h2]; exact r.low, r.len, r.R, r.tb⟩
theorem Act.make (a : Act C F) (K : Addr) (vals : List Value) : ActK C (F.under (.builtin "type.__call__" ⟨.ref K :: vals, []⟩)) 0 := by
  refine ob_EEEA (a.bel) fun A₀ base outer hB hA => ?_
  refine ⟨⟨A₀, base, outer, hB, ?_⟩, a.frm, a.knd, a.gen, a.cor, a.gl, a.bl, a.X, a.T, a.sr, a.tr, a.hd, ?_, ?_, a.O, a.Z, a.bm⟩
  · show pushEnvs [] F.A.frames = _
    rw [hA]; rfl
  · have := a.dep
    show F.A.depth + 1 + 40 * F.n + 20 * F.d + 115 + 0 < _
    omega
  · have := a.uni
    show F.A.units + 1 + 100 * F.n + 50 * F.d + 195 + 0 < _
    omega
theorem new_ok {c : String} {K : Addr} {kl : RCls} {d : RFn} (hU : UOk C U n) (hn : F.n = n) (a : Act C F) (r : Rel C F m σ) (hc : nsIn C.K mainGlobals (Str.ofString c) = some (some (.ref K))) (hk : C.G.clss.lookup c = some kl) (hd : kl.ms.lookup "__init__" = some d)
    (hv : VsRel C σ args vals) (hw : U d (.ref σ.H.length :: args) (σ.H ++ [.inst c []]) fun r H' => r = .none ∧ Q (.ref σ.H.length) H') : Ev C F m σ (call (.ref K) vals) (EP C Q) := by
  intro P E hP
  refine ob_EAAAAA (a.O.cl c kl hk) fun K' hK' k1 k2 k3 z_ k8 => ?_
  rw [hc] at hK'
  cases hK'
  refine ob_EAA (k8 "__init__" d hd) fun f f1 f2 f3 => ?_
  refine call_cls r.fr a.X news_others k1 f1 f2 fun x dx h' F' N' lt1 lt2 => ?_
  have zx := N' _ (.head _)
  have zd := N' _ (.tail _ (.head _))
  have fresh : ∀ {y : Addr}, dx ≤ y → y ≠ F.L → F.h₀.get? y = none → σ.h.get? y = none := fun {y} hy h1 h2 => by
    cases g : σ.h.get? y with
    | none => rfl
    | some o => exact absurd (lt1 (y, o) (mem_others.mpr ⟨g, h1, h2⟩)) (Nat.not_lt.mpr hy)
  have fx := fresh (Nat.le_of_lt lt2) zx.2.1 zx.2.2
  have fd := fresh (Nat.le_refl _) zd.2.1 zd.2.2
  have hk' := but_of r F' fun p hp => N' p (.tail _ (.tail _ hp))
  let s₁ : Shared := { σ.s with heap := h' }
  have r₁ : Rel C F m (σ.at s₁) := r.keepL F' hk'
  have n₁ : Nx (NL F) σ (σ.at s₁) := Nx.keepL r F' hk' ⟨rfl, rfl, rfl⟩
  have two : ∀ {p : Addr → Prop}, p x → p dx → ∀ a ∈ [x, dx], p a := fun h1 h2 a ha => by
    rcases List.mem_cons.mp ha with rfl | ha
    · exact h1
    · rw [List.mem_singleton] at ha; rw [ha]; exact h2
  have hb : ∀ a ∈ [x, dx], ∀ o, fixd o → ¬ (σ.at s₁).h.get? a = some o := two
    (fun o hf g => by
      have g' : h'.get? x = some o := g
      rw [zx.1] at g'
      cases g'
      rcases hf.1 with e | e | e <;> cases e)
    (fun o hf g => by
      have g' : h'.get? dx = some o := g
      rw [zd.1] at g'
      cases g'
      exact hf.2.1 _ _ rfl)
  have c₂ : Carry (σ.at s₁) ((σ.at s₁).new [x, dx] (.inst c []) s₁) := new_carry (fun z_ z_ g => g) hb
  have rr : Rel C F m ((σ.at s₁).new [x, dx] (.inst c []) s₁) := by
    refine r₁.take (fun z_ z_ g => g) ?_ (two (off_own r fx) (off_own r fd)) (two ⟨zx.2.2, zx.2.1⟩ ⟨zd.2.2, zd.2.1⟩) hb (.inst zx.1 zd.1 hc .nil)
    simp only [List.nodup_cons, List.mem_singleton, List.not_mem_nil, not_false_eq_true, List.nodup_nil, and_true]
    exact Nat.ne_of_gt lt2
  have n₂ : Nx (NL F) σ ((σ.at s₁).new [x, dx] (.inst c []) s₁) := by
    refine ⟨fun i b e => ext_new [x, dx] (.inst c []) e, fun a ha => ?_, n₁.liv, n₁.frm, n₁.sm, Hx.snoc _ _⟩
    rcases own_new.mp ha with ha | ha
    · exact .inl ha
    · exact .inr (two (p := fun a => σ.h.get? a = none) fx fd a ha)
  have hx : VRel C ((σ.at s₁).new [x, dx] (.inst c []) s₁) (.ref σ.H.length) (.ref x) := .ref (adr_new r _ _ _)
  refine hU (F := F.under (.builtin "type.__call__" ⟨.ref K :: vals, []⟩)) (σ := (σ.at s₁).new [x, dx] (.inst c []) s₁) hn (a.make _ _) f3 (.cons hx (hv.mono (n₁.carry.trans c₂))) (rr.same rfl rfl) hw fun u σ' q r' n' => ?_
  (revert q; refine ob_EAr fun v o1_ hv' => ?_; revert o1_; refine ob_Ar fun o2_ q => ?_; subst o2_)
  rw [hv'.none_inv]
  exact ⟨rfl, hP _ σ' ⟨_, q, hx.mono n'.carry⟩ (r'.same rfl rfl) (n₂.trans n')⟩
set_option tactic.hygienic true in
theorem mtFn_func {K : Frag} {T : List Nat} {f : Addr} {q : Str} {d : RFn} (h : mtFn K T f q d = true) : ∃ c dd fd sl, K.lookup f = some ⟨.type c, dd, .func fd, sl⟩ := by
  unfold mtFn at h
  split at h
  · rename_i e; exact ⟨_, _, _, _, e⟩
  · cases h
theorem keep_fn {K : Frag} {T : List Nat} {f : Addr} {q : Str} {d : RFn} (h : mtFn K T f q d = true) : keepIn K (.ref f) = true := by
  refine ob_EEEE (mtFn_func h) fun c dd fd sl e => ?_
  unfold keepIn
  dsimp only
  rw [e]
set_option tactic.hygienic true in
theorem call_ok {f : RV} {fv : Value} (hU : UOk C U n) (hn : F.n = n) (a : Act C F) (r : Rel C F m σ) (hf : VRel C σ f fv) (hv : VsRel C σ args vals) (hw : callwp C.G U f args σ.H Q) : Ev C F m σ (call fv vals) (EP C Q) := by
  cases f <;> first | exact absurd hw id | skip
  case fn x =>
    refine ob_EA (opt_of (show optwp (C.G.funs.lookup x) (fun d => U d args σ.H Q) from hw)) fun d hd hw => ?_
    cases hf with
    | fn hx =>
      refine ob_EA (a.O.fn x d hd) fun f' hf' hm => ?_
      rw [hx] at hf'
      cases hf'
      intro P E hP
      exact wpAny_call (hU hn a.weak hm hv r hw fun u σ' q r' n' => hP u σ' q r' n')
  case cls c =>
    refine ob_EA (opt_of (show optwp ((C.G.clss.lookup c).bind (·.ms.lookup "__init__")) (fun d => U d (.ref σ.H.length :: args) (σ.H ++ [.inst c []]) fun r H' => r = .none ∧ Q (.ref σ.H.length) H') from hw)) fun d hd hw => ?_
    refine ob_EA (bind_of hd) fun kl hk hd => ?_
    cases hf with
    | cls hx => exact new_ok hU hn a r hx hk hd hv hw
  case bi x => cases hf; exact bi_ok a r hv hw
  case ty x => cases hf; exact ty_ok a r hv hw
set_option tactic.hygienic true in
theorem keeper_ok {f : RV} {fv : Value} (O : ProgOk C.K C.G) (hf : VRel C σ f fv) (hw : callable C.G f = true) :
    ∀ h, C.K.In h → ∃ k, (k = Keeper.frame ∨ k = Keeper.machine ∨ k = Keeper.boundFrame) ∧ Looks C.M h (keeperOf fv) k := by
  cases f <;> first | exact absurd hw Bool.false_ne_true | skip
  case fn x =>
    cases hf with
    | fn hx =>
      refine ob_E (Option.isSome_iff_exists.mp (show (C.G.funs.lookup x).isSome = true from hw)) fun d hd => ?_
      refine ob_EA (O.fn x d hd) fun f' hf' hm => ?_
      rw [hx] at hf'
      cases hf'
      exact keeps_K (keep_fn hm)
  case cls c =>
    cases hf with
    | cls hx =>
      refine ob_E (Option.isSome_iff_exists.mp (show ((C.G.clss.lookup c).bind (·.ms.lookup "__init__")).isSome = true from hw)) fun d hd => ?_
      refine ob_EA (bind_of hd) fun kl hk hd => ?_
      refine ob_EAAAA (O.cl c kl hk) fun K' hC z_ z_ hk z_ => ?_
      rw [hx] at hC
      cases hC
      exact keeps_K hk
  case bi x => cases hf; exact fun h X => ⟨.machine, .inr (.inl rfl), Looks.of_pure rfl⟩
  case ty x => cases hf; exact fun h X => ⟨.machine, .inr (.inl rfl), Looks.of_pure rfl⟩
theorem callWith_R {es : List Expr} {pos : Pos} {fv : Value} {first : List Value} {s : Shared} {A : Around} {env : Env} {ns : Ns} {P : Value → Shared → Prop} (hm : mtEs ns es rs = true)
    (hk : ∀ h, C.K.In h → ∃ k, (k = Keeper.frame ∨ k = Keeper.machine ∨ k = Keeper.boundFrame) ∧ Looks C.M h (keeperOf fv) k)
    (h : wpAny C.M A (spliced (es.map fun e => (false, eval e env))) (fun vs s₁ => C.K.In s₁.heap ∧ wpAny C.M A (call fv (first ++ vs)) P E s₁) E s) :
    wpAny C.M A (callWith pos fv first (backTo pos (starEach es env)) []) P E s := by
  rw [starEach_plain hm, backTo_plain]
  cases es with
  | nil =>
    refine callWith_of (P := C.K.In) rfl hk ?_
    unfold evalArgs
    show wpAny C.M A (spliced [] >>= _) _ E s
    refine wpAny_bind (wpAny_mono h (fun vs s' h' => ?_) fun z_ z_ x => x)
    refine wpAny_bind (wpAny_pure ?_)
    refine wpAny_holding ?_
    exact wpAny_bind (wpAny_pure (wpAny_bind (wpAny_pure (wpAny_pure h'))))
  | cons e es =>
    have hp : ((e :: es).map fun e => (false, eval e env)).any (·.1) = false := by
      rw [List.any_map]; simp
    refine callWith_of (P := C.K.In) (by rw [hp]; rfl) hk (evalArgs_plain ?_)
    exact h
theorem ev_call {e : Expr} {a : RE} (hU : UOk C U n) (h1 : Ok C U n a) (h2 : Oks C U n rs) : EvOk C U n e (.call a rs) := by
  intro F V m σ Q hn hm N hw P E hP
  (refine ob_EEEEAA (inv_call hm) fun id np es p o1_ hf hes => ?_; subst o1_)
  rw [arm_eval_Call_Name']
  refine wpAny_bind ((h1 _).1 hn hf N hw _ _ fun u σ₁ q r₁ n₁ => ?_)
  (revert q; refine ob_EAr fun f q hfv => ?_)
  refine callWith_R hes (keeper_ok N.a.O hfv q.1) ?_
  refine evs_ok h2 hn hes (N.step r₁ n₁) q.2 _ _ fun us σ₂ q r₂ n₂ => ?_
  (revert q; refine ob_EAr fun vs q hvs => ?_)
  exact ⟨N.a.inK r₂, (call_ok hU hn N.a r₂ (hfv.mono n₂.carry) hvs q).after (n₁.trans n₂) hP⟩
end
theorem chars_inj : ∀ (l l' : List Char), l.map Char.toNat = l'.map Char.toNat → l = l'
  | [], [], _ => rfl
  | [], _ :: _, h => by simp at h
  | _ :: _, [], h => by simp at h
  | a :: l, b :: l', h => by
    simp only [List.map_cons, List.cons.injEq] at h
    have : a = b := Char.ext (UInt32.toNat_inj.mp h.1)
    rw [this, chars_inj l l' h.2]
theorem ofString_inj {a b : String} (h : Str.ofString a = Str.ofString b) : a = b := by
  rw [Str.ofString_eq_toList, Str.ofString_eq_toList] at h
  have h1 : (a.toList.map Char.toNat) = (b.toList.map Char.toNat) := by
    have := congrArg Str.cps h
    simpa using this
  exact String.toList_injective (chars_inj _ _ h1)
theorem attrBase {o : Expr} {x : Str} {env : Env} {whole : Sem Value} (h : noCall0 o = true) : attributeBase o x env whole = whole := by
  unfold attributeBase
  split
  · exact absurd h Bool.false_ne_true
  · rfl
theorem isStr_name (x y : String) (t : Tok) : (Value.str (Str.ofString x) t).isStr (Str.ofString y) = decide (x = y) := by
  show (Str.ofString x == Str.ofString y) = _
  by_cases h : x = y
  · subst h; simp
  · have : Str.ofString x ≠ Str.ofString y := fun e => h (ofString_inj e)
    rw [decide_eq_false h]
    exact beq_false_of_ne this
theorem putL_len (nm : Str) (hs : Int) (k v : Value) : ∀ es : List DictEntry, (putL nm hs k v es).length ≤ es.length + 1
  | [] => Nat.le_refl _
  | e :: r => by
    unfold putL
    split
    · simp
    · simp; exact putL_len nm hs k v r
section
variable {C : Cx} {F : Fm} {V : Vm} {m : Str → Option Value} {σ σ' : Sg} {U : UTy} {n : Nat} {Q : PV} {s' : Shared}
def ButL (L d : Addr) (h h' : Heap) : Prop := ∀ a o, a ≠ d → a ≠ L → h.get? a = some o → h'.get? a = some o
theorem chgL_carry (r : Rel C F m σ) {i : Nat} {ro : RO} {d : Addr} (hd : d ∈ σ.own) (hk : ButL F.L d σ.h s'.heap) : Carry σ (σ.chg i ro s') := ⟨fun z_ z_ e => e, fun a o hf j => ⟨j.1, hk a o (fun q => j.1 (q ▸ hd)) (fun q => by
  refine ob_EEEA (r.liveL) fun o' es ep g dd => ?_
  have e := j.2
  rw [q, g] at e
  cases e
  exact hf.2.1 es ep dd) j.2⟩⟩
theorem Rel.chgL (r : Rel C F m σ) {i : Nat} {b : List Addr} {ro : RO} {d : Addr} (hb : σ.ad[i]? = some b) (hd : d ∈ b) (F' : Fr F.h₀ F.L s'.heap m) (hk : ButL F.L d σ.h s'.heap) (hr : ORel C (σ.chg i ro s') ro b) (ht : ∀ b, σ.H[i]? = some (.tab b) → ∃ b', ro = .tab b') : Rel C F m (σ.chg i ro s') where
  fr := F'
  nd := r.nd
  low := r.low
  len := by simp [r.len]
  tb := tb_chg r ht
  R j o e := by
    by_cases hj : j = i
    · subst hj
      have hl : j < σ.H.length := by
        rw [← r.len]
        by_cases hi : j < σ.ad.length
        · exact hi
        · rw [List.getElem?_eq_none (by omega)] at hb; cases hb
      have e : (σ.H.set j ro)[j]? = some o := e
      rw [List.getElem?_set_self hl] at e
      cases e
      exact ⟨b, hb, hr⟩
    · have e : (σ.H.set i ro)[j]? = some o := e
      rw [List.getElem?_set_ne (Ne.symm hj)] at e
      refine ob_EA (r.R j o e) fun b' hb' x => ?_
      exact ⟨b', hb', x.mono (chgL_carry r (mem_own hb hd) hk) fun a ha x g => hk a x (flat_ne r.nd hb hb' hj ha hd) (r.low a (mem_own hb' ha)).2 g⟩
theorem Nx.chgL (r : Rel C F m σ) {i : Nat} {ro : RO} {d : Addr} (hd : d ∈ σ.own) (F' : Fr F.h₀ F.L s'.heap m) (hk : ButL F.L d σ.h s'.heap) (sm : Sm σ.s s') (ag : ∀ o, σ.H[i]? = some o → Ages o ro) : Nx (NL F) σ (σ.chg i ro s') := by
  refine ⟨fun z_ z_ e => e, fun z_ e => .inl e, fun a o h g => ?_, fun a o h k g => ?_, sm, Hx.set ag⟩
  · by_cases hL : a = F.L
    · subst hL
      refine ob_EEEA (F'.ns) fun o' z_ z_ g' z_ => ?_
      exact ⟨o', g'⟩
    · exact ⟨o, hk a o (fun q => h (q ▸ hd)) hL g⟩
  · by_cases hL : a = F.L
    · refine ob_EEEA (r.liveL) fun o' es ep g' d => ?_
      rw [hL, g'] at g
      cases g
      exact absurd d ((k hL).1 es ep)
    · exact hk a o (fun q => h (q ▸ hd)) hL g
noncomputable def othersBut (F : Fm) (σ : Sg) (d : Addr) : List (Addr × Obj) := (others F σ).filter fun p => p.1 != d
theorem news_but {d : Addr} {o : Obj} (g : σ.h.get? d = some o) (hL : d ≠ F.L) (h0 : F.h₀.get? d = none) : News F.h₀ F.L σ.h ((d, o) :: othersBut F σ d) := fun p hp => by
  rcases List.mem_cons.mp hp with rfl | hp
  · exact ⟨g, hL, h0⟩
  · exact news_others p (List.mem_filter.mp hp).1
theorem but_ne {d : Addr} : ∀ p ∈ othersBut F σ d, p.1 ≠ d := fun p hp => by
  have := (List.mem_filter.mp hp).2
  simpa using this
theorem butL_of (r : Rel C F m σ) {d : Addr} {o : Obj} {h' : Heap} (F' : Fr F.h₀ F.L h' m) (N' : News F.h₀ F.L h' ((d, o) :: othersBut F σ d)) : ButL F.L d σ.h h' := fun a o' ha hL g => by
  cases e : F.h₀.get? a with
  | none => exact (N' _ (.tail _ (List.mem_filter.mpr ⟨mem_others.mpr ⟨g, hL, e⟩, by simpa using ha⟩))).1
  | some o₂ =>
    have := r.fr.keep a o₂ e
    rw [g] at this
    cases this
    exact F'.keep a o' e
theorem FsRel.length {fs : List (String × RV)} {es : List DictEntry} (h : FsRel C σ fs es) : fs.length = es.length := by
  induction h with
  | nil => rfl
  | cons _ _ ih => simp [ih]
theorem FsRel.noRef {fs : List (String × RV)} {es : List DictEntry} (h : FsRel C σ fs es) : es.any (·.refKey) = false := by
  induction h with
  | nil => rfl
  | cons _ _ ih => rw [List.any_cons, ih]; rfl
set_option tactic.hygienic true in
theorem FsRel.get {fs : List (String × RV)} {es : List DictEntry} (h : FsRel C σ fs es) (x : String) :
    (∀ v, fs.lookup x = some v → ∃ u, getL (Str.ofString x) es = some (some u) ∧ VRel C σ v u) ∧ (fs.lookup x = none → getL (Str.ofString x) es = some none) := by
  have hn := h.noRef
  unfold getL
  induction h with
  | nil => exact ⟨fun v e => (by cases e), fun z_ => rfl⟩
  | cons hv r ih =>
    rename_i y u t v fs es
    rw [List.any_cons, Bool.or_eq_false_iff] at hn
    rw [List.lookup_cons, List.find?_cons]
    show (∀ v', (match x == y with | true => some u | false => List.lookup x fs) = some v' → _) ∧ _
    have e : (Value.str (Str.ofString y) t).isStr (Str.ofString x) = decide (y = x) := isStr_name y x t
    rw [e]
    by_cases h : x = y
    · subst h
      simp only [beq_self_eq_true, decide_true]
      exact ⟨fun v' e => (by cases e; exact ⟨_, rfl, hv⟩), fun e => (by cases e)⟩
    · have h1 : (x == y) = false := by simp [h]
      have h2 : decide (y = x) = false := decide_eq_false fun e => h e.symm
      rw [h1, h2]
      have := ih hn.2
      rw [List.any_cons, hn.1, Bool.false_or]
      exact this
set_option tactic.hygienic true in
theorem FsRel.put {fs : List (String × RV)} {es : List DictEntry} (h : FsRel C σ fs es) {x : String} {v : RV} {u : Value} (hv : VRel C σ v u) (t : Tok) :
    FsRel C σ (setL x v fs) (putL (Str.ofString x) (PyData.keyHash C.P (Str.ofString x)) (.str (Str.ofString x) t) u es) := by
  induction h with
  | nil => exact .cons hv .nil
  | cons hv' r ih =>
    rename_i y u' t' v' fs es
    unfold setL putL
    have e : (Value.str (Str.ofString y) t').isStr (Str.ofString x) = decide (y = x) := isStr_name y x t'
    show FsRel C σ _ (if (Value.str (Str.ofString y) t').isStr (Str.ofString x) = true then _ else _)
    rw [e]
    by_cases h : y = x
    · subst h
      simp only [if_true, decide_true]
      exact .cons hv r
    · rw [if_neg h, if_neg (by simp [h])]
      exact .cons hv' ih
theorem Rel.instAt (r : Rel C F m σ) {i : Nat} {c : String} {fs : List (String × RV)} {x : Addr} (e : σ.H[i]? = some (.inst c fs)) (ha : adr σ.ad i = some x) :
    ∃ K d ds k, nsIn C.K mainGlobals (Str.ofString c) = some (some (.ref K)) ∧ FsRel C σ fs ds ∧ σ.ad[i]? = some [x, d] ∧ InstAt σ.h x (instObj K d) K (some (dictOf ds k)) ∧ σ.h.get? d = some (dctO ds k) := by
  refine ob_EA (r.ob e ha) fun b hb y => ?_
  cases y with
  | inst g g' hc hf => exact ⟨_, _, _, _, hc, hf, hb, ⟨g, rfl, rfl, g'⟩, g'⟩
theorem VRel.handed {v : RV} {u : Value} (h : VRel C σ v u) (hb : isBi v = false) : handedIn u = true := by
  cases h <;> first | rfl | exact absurd hb.symm Bool.false_ne_true
theorem attrOk_of {G : RProg} {c x : String} (h : attrOk G c x = true) : ∃ k, G.clss.lookup c = some k ∧ x ∈ k.attrs := by
  have h : (match G.clss.lookup c with | some k => k.attrs.contains x | none => false) = true := h
  cases hk : G.clss.lookup c with
  | none => rw [hk] at h; exact absurd h Bool.false_ne_true
  | some k => rw [hk] at h; exact ⟨k, rfl, by simpa using h⟩
theorem attr_ok {o v : RV} {ou : Value} {x : String} {expr : Bool} (a : Act C F) (r : Rel C F m σ) (ho : VRel C σ o ou) (hw : fieldR C.G σ.H o x = some v) (hq : Q v σ.H) : Ev C F m σ (getAttr ou (Str.ofString x) expr) (EP C Q) := by
  intro P E hP
  refine ob_EA (bind_of hw) fun p hp hw => ?_
  refine ob_A (insAt_of hp) fun e hi => ?_
  rw [e] at ho
  (refine ob_EA (ho.ref_inv) fun a' o1_ ha => ?_; subst o1_)
  by_cases hat : attrOk C.G p.2.1 x = true
  · rw [if_pos hat] at hw
    refine ob_EA (bind_of hw) fun v' hl hw' => ?_
    by_cases hb : isBi v' = true
    · rw [if_pos hb] at hw'; exact nos hw'
    · rw [if_neg hb] at hw'
      cases hw'
      refine ob_EEEEAAAA (r.instAt hi ha) fun K d ds k hc hf hb' I g => ?_
      refine ob_EA (attrOk_of hat) fun kl hk hx => ?_
      (refine ob_EAAAAA (a.O.cl _ kl hk) fun K' hK' z_ k2 z_ o1_ z_ => ?_; revert o1_; refine ob_AAAr fun k4 k5 k6 k7 => ?_)
      rw [hc] at hK'
      cases hK'
      refine ob_EAA (k7 x hx) fun attr a1 a2 a3 => ?_
      refine ob_EA ((hf.get x).1 v hl) fun u g1 g2 => ?_
      exact get_own r.fr a.X I k4 k2 a1 a2 g1 (g2.handed (Bool.not_eq_true _ |>.mp hb)) (Ev.tok r hq g2 hP)
  · rw [if_neg hat] at hw; exact nos hw
theorem setAttr_ok {o v : RV} {ou u : Value} {x : String} {H' : RH} (a : Act C F) (r : Rel C F m σ) (ho : VRel C σ o ou) (hv : VRel C σ v u) (hw : setField C.G σ.H o x v = some H') : Ev C F m σ (setAttr ou (Str.ofString x) u) (fun z_ σ' => σ'.H = H') := by
  intro P E hP
  refine ob_EA (bind_of hw) fun p hp hw => ?_
  refine ob_A (insAt_of hp) fun e hi => ?_
  rw [e] at ho
  (refine ob_EA (ho.ref_inv) fun a' o1_ ha => ?_; subst o1_)
  (refine ob_A (if_of hw) fun hat o1_ => ?_; subst o1_)
  refine ob_A (an hat) fun hat hlen => ?_
  have hlen := of_decide_eq_true hlen
  refine ob_EEEEAAAA (r.instAt hi ha) fun K d ds k hc hf hb I g => ?_
  refine ob_EA (attrOk_of hat) fun kl hk hx => ?_
  (refine ob_EAAAAA (a.O.cl _ kl hk) fun K' hK' z_ k2 z_ o1_ z_ => ?_; revert o1_; refine ob_AAAr fun k4 k5 k6 k7 => ?_)
  rw [hc] at hK'
  cases hK'
  refine ob_EAA (k7 x hx) fun attr a1 a2 a3 => ?_
  have hl : (getL (Str.ofString x) ds).isSome = true := by
    cases q : p.2.2.lookup x with
    | none => rw [(hf.get x).2 q]; rfl
    | some v' => refine ob_EA ((hf.get x).1 v' q) fun u' g z_ => ?_; rw [g]; rfl
  have hd : d ∈ [a', d] := .tail _ (.head _)
  have lo := r.low d (mem_own hb hd)
  refine set_dict r.fr a.X (news_but g lo.2 lo.1) I rfl k5 k6 a3 k2 hl rfl (.head but_ne) (Nat.le_trans (putL_len _ _ _ _ _) (by rw [← hf.length]; omega)) fun h' F' N' => ?_
  have bt := butL_of r F' N'
  have zd := N' _ (.head _)
  have ne : a' ≠ d := fun q => by
    have i1 := I.1
    rw [q, g] at i1
    cases i1
  have c := chgL_carry r (i := p.1) (ro := .inst p.2.1 (setL x v p.2.2)) (s' := { σ.s with heap := h', toks := σ.s.toks + 2 }) (mem_own hb hd) bt
  refine hP () (σ.chg p.1 (.inst p.2.1 (setL x v p.2.2)) { σ.s with heap := h', toks := σ.s.toks + 2 }) rfl (r.chgL hb hd F' bt ?_ fun b e => by rw [hi] at e; cases e) (Nx.chgL r (mem_own hb hd) F' bt ⟨rfl, rfl, rfl⟩ fun o e => by rw [hi] at e; cases e; exact Ages.none rfl)
  exact .inst (bt a' _ ne (r.low a' (mem_own hb (.head _))).2 I.1) zd.1 hc ((hf.mono c).put (hv.mono c) _)
theorem ev_attr {e : Expr} {a : RE} {x : String} (h : Ok C U n a) : EvOk C U n e (.attr a x) := by
  intro F V m σ Q hn hm N hw P E hP
  (refine ob_EEAA (inv_attr hm) fun o p o1_ h0 ho => ?_; subst o1_)
  rw [arm_eval_Attribute, attrBase h0]
  refine wpAny_bind ((h o).1 hn ho N hw _ _ fun u σ₁ q r₁ n₁ => ?_)
  (revert q; refine ob_EAr fun v q hv => ?_)
  refine ob_EA (opt_of q) fun v' hv' q => ?_
  refine wpAny_bind (wpAny_standAt (wpAny_bind (wpAny_holding ?_)))
  refine attr_ok (Q := Q) N.a r₁ hv hv' q _ _ fun u₂ σ₂ q₂ r₂ n₂ => ?_
  exact wpAny_bind (wpAny_letTemporaryGo (wpAny_pure (hP u₂ σ₂ q₂ r₂ (n₁.trans n₂))))
end
section
variable {C : Cx} {F : Fm} {V : Vm} {m : Str → Option Value} {σ σ' : Sg} {U : UTy} {n : Nat} {Q : PV} {s' : Shared} {args : List RV} {vals : List Value} {o : RV} {ou : Value}
theorem same_but {d : Addr} {h h' : Heap} (hs : Heap.SameBut d h h') : KeepBut d h h' := fun a o ha g => hs.extBut a o ha g
theorem vs_strsA {l : List (Str × Tok)} : VsRel C σ ((l.map (·.1)).map RV.str) (strValues l) := by
  induction l with
  | nil => exact .nil
  | cons x l ih => exact .cons (.str _ _) ih
theorem append_ok (a : Act C F) (r : Rel C F m σ) (ho : VRel C σ o ou) (hv : VsRel C σ args vals) (hw : mbwp "list.append" o args σ.H Q) : Ev C F m σ (call (.builtin "list.append") (ou :: vals)) (EP C Q) := by
  intro P E hP
  refine ob_EA (one_of (show onewp args fun v => optwp (lstAt σ.H o) fun p => p.2.length < 4000 ∧ Q .none (σ.H.set p.1 (.list (p.2 ++ [v]))) from hw)) fun v e hq => ?_
  clear hw
  subst e
  (refine ob_EA (hv.one_inv) fun u o1_ hu => ?_; subst o1_)
  refine ob_EA (opt_of hq) fun p hp hw => ?_
  refine ob_A (lstAt_of hp) fun e hi => ?_
  rw [e] at ho
  (refine ob_EA (ho.ref_inv) fun a' o1_ ha => ?_; subst o1_)
  refine ob_EEAA (r.listAt hi ha) fun vs k R1 hb g => ?_
  have hl := R1.length
  refine append_at g (fun h' hs ho' => ?_) (by simp only [List.size_toArray]; rw [sizeLine_eq]; have := hw.1; omega)
  have ho'' : h'.get? a' = some (lstO (vs ++ [u]) (k + 1)) := by rw [ho']; simp
  have c := chg_carry (i := p.1) (ro := .list (p.2 ++ [v])) (s' := { σ.s with heap := h' }) (mem_own hb (.head _)) (same_but hs)
  exact hP _ (σ.chg p.1 (.list (p.2 ++ [v])) { σ.s with heap := h' }) ⟨.none, hw.2, .none⟩ (r.chg hb (.head _) (same_but hs) (.list ho'' ((R1.mono c).append (.cons (hu.mono c) .nil))) fun b e => by rw [hi] at e; cases e) (Nx.chg (mem_own hb (.head _)) (same_but hs) ⟨rfl, rfl, rfl⟩ fun o e => by rw [hi] at e; cases e; exact Ages.none rfl)
theorem split_ok (a : Act C F) (r : Rel C F m σ) (ho : VRel C σ o ou) (hv : VsRel C σ args vals) (hw : mbwp "str.split" o args σ.H Q) : Ev C F m σ (call (.builtin "str.split") (ou :: vals)) (EP C Q) := by
  intro P E hP
  cases args with
  | cons _ _ => exact absurd hw id
  | nil =>
    rw [hv.nil_inv]
    refine ob_EA (opt_of (show optwp (asS o) fun x => x.length < 4000 ∧ mkLwp σ.H Q ((Txt.words x).map .str) from hw)) fun x hx hw => ?_
    rw [asS_of hx] at ho
    (refine ob_E (ho.str_inv) fun t o1_ => ?_; subst o1_)
    refine splitN0 r.fr news_others (fun l h' k e F' N' => ?_) (by rw [sizeLine_eq]; have := hw.1; omega)
    have z := N' _ (.head _)
    refine Ev.laid r (o := lstO (strValues l) 0) F' (but_of r F' fun p hp => N' p (.tail _ hp)) (up_none (Nat.le_refl _)) z.2.1 z.2.2 z.1 (lst_idle _ _) hw.2 (fun σ' c g => .list g ?_) hP
    rw [← e]; exact vs_strsA
theorem sadd_ok (a : Act C F) (r : Rel C F m σ) (ho : VRel C σ o ou) (hv : VsRel C σ args vals) (hw : mbwp "set.add" o args σ.H Q) : Ev C F m σ (call (.builtin "set.add") (ou :: vals)) (EP C Q) := by
  refine ob_EA (one_of (show onewp args fun k => optwp (setAt σ.H o) fun p => optwp (addS p.2 k) fun s => Q .none (σ.H.set p.1 (setOf s)) from hw)) fun k e hq => ?_
  clear hw
  subst e
  (refine ob_EA (hv.one_inv) fun u o1_ hu => ?_; subst o1_)
  refine ob_EA (opt_of hq) fun p hp hw => ?_
  refine ob_EA (opt_of hw) fun s hs hw => ?_
  refine ob_A (setAt_of hp) fun e hi => ?_
  rw [e] at ho hp
  (refine ob_EA (ho.ref_inv) fun a' o1_ ha => ?_; subst o1_)
  exact setadd_ok a r hp ha hu hs hw
def UpdOk (C : Cx) : Prop := ∀ {F : Fm} {m : Str → Option Value} {σ : Sg} {Q : PV} {args : List RV} {vals : List Value} {o : RV} {ou : Value}, Act C F → Rel C F m σ → VRel C σ o ou → VsRel C σ args vals → mbwp "set.update" o args σ.H Q → Ev C F m σ (call (.builtin "set.update") (ou :: vals)) (EP C Q)
theorem mb_ok {id : String} (hX : UpdOk C) (a : Act C F) (r : Rel C F m σ) (ho : VRel C σ o ou) (hv : VsRel C σ args vals) (hw : mbwp id o args σ.H Q) : Ev C F m σ (call (.builtin id) (ou :: vals)) (EP C Q) := by
  by_cases h1 : id = "list.append"
  · subst h1; exact append_ok a r ho hv hw
  by_cases h2 : id = "str.split"
  · subst h2; exact split_ok a r ho hv hw
  by_cases h4 : id = "set.add"
  · subst h4; exact sadd_ok a r ho hv hw
  unfold mbwp at hw
  rw [if_neg h1, if_neg h2, if_neg h4] at hw
  exact hw.elim
def Finds (C : Cx) (F : Fm) (σ : Sg) (u : Value) (x : String) (id : String) : Prop := ∀ {Q : Value × List Value → Shared → Prop} {E : Value → Shared → Prop}, Q (.builtin id, [u]) σ.s → ∀ pl, wpAny C.M F.A (getMethod u (Str.ofString x) pl) Q E σ.s
set_option tactic.hygienic true in
theorem finds_ok {x : String} {id : String} (r : Rel C F m σ) (ho : VRel C σ o ou) (h : methK C.G σ.H o x = some (.blt id)) : Finds C F σ ou x id := by
  intro Q E hq pl
  cases o <;> first | exact nos h | skip
  case str z =>
    (refine ob_A (if_of (show (if x = "split" then some (MK.blt "str.split") else none) = some (.blt id) from h)) fun o1_ e => ?_; subst o1_)
    cases e
    (refine ob_E (ho.str_inv) fun t o1_ => ?_; subst o1_)
    exact getMethod_builtin (typeIs_str _ _ _) PySem.F.plainAttrs_str PySem.F.slot_str_split PySem.F.type_str_split (fun a' e => by cases e) hq
  case ref i =>
    refine ob_EA (bind_of (show (σ.H[i]?).bind (methO C.G x) = some (.blt id) from h)) fun ob hi h => ?_
    (refine ob_EA (ho.ref_inv) fun a' o1_ ha => ?_; subst o1_)
    cases ob with
    | list us =>
      (refine ob_A (if_of (show (if x = "append" then some (MK.blt "list.append") else none) = some (.blt id) from h)) fun o1_ e => ?_; subst o1_)
      cases e
      refine ob_EEAA (r.listAt hi ha) fun ws k R1 z_ g => ?_
      exact getMethod_builtin (isList_of g).typeIs PySem.F.plainAttrs_list PySem.F.slot_list_append PySem.F.type_list_append (fun a' e => by cases e; exact ⟨_, g, rfl⟩) hq
    | dict es n =>
      (refine ob_A (if_of (show (if x = "get" then some (MK.blt "dict.get") else none) = some (.blt id) from h)) fun o1_ e => ?_; subst o1_)
      cases e
      refine ob_EAAA (r.dictAt hi ha) fun ds R1 nd z_ g => ?_
      exact getMethod_builtin (dict_of R1 nd g).mapOf.typeIs PySem.F.plainAttrs_dict PySem.F.slot_dict_get PySem.F.type_dict_get (fun a' e => by cases e; exact ⟨_, g, rfl⟩) hq
    | set es n t =>
      refine ob_EAAA (r.setAt hi ha) fun vs g R1 f z_ => ?_
      have hT : σ.s.TypeIs (.ref a') "set" := ⟨_, g, rfl⟩
      have h : (if x = "add" then some (MK.blt "set.add") else if x = "update" then some (.blt "set.update") else none) = some (.blt id) := h
      by_cases h1 : x = "add"
      · rw [if_pos h1] at h
        subst h1
        cases h
        exact getMethod_builtin hT PySem.F.plainAttrs_set PySem.F.slot_set_add PySem.F.type_set_add (fun a' e => by cases e; exact ⟨_, g, rfl⟩) hq
      · rw [if_neg h1] at h
        (refine ob_A (if_of h) fun o1_ e => ?_; subst o1_)
        cases e
        exact getMethod_builtin hT PySem.F.plainAttrs_set PySem.F.slot_set_update PySem.F.type_set_update (fun a' e => by cases e; exact ⟨_, g, rfl⟩) hq
    | tab b => exact nos h
    | inst c fs =>
      have h : (if (fs.lookup x).isSome then none else ((C.G.clss.lookup c).bind (·.ms.lookup x)).map MK.own) = some (.blt id) := h
      by_cases h1 : (fs.lookup x).isSome = true
      · rw [if_pos h1] at h; exact nos h
      · rw [if_neg h1] at h
        refine ob_EA (map_of h) fun d z_ e => ?_
        cases e
set_option tactic.hygienic true in
theorem own_of {x : String} {d : RFn} (h : methK C.G σ.H o x = some (.own d)) : ∃ i c fs kl, o = .ref i ∧ σ.H[i]? = some (.inst c fs) ∧ fs.lookup x = none ∧ C.G.clss.lookup c = some kl ∧ kl.ms.lookup x = some d := by
  cases o <;> first | exact nos h | skip
  case str z =>
    refine ob_A (if_of (show (if x = "split" then some (MK.blt "str.split") else none) = some (.own d) from h)) fun z_ e => ?_
    cases e
  case ref i =>
    refine ob_EA (bind_of (show (σ.H[i]?).bind (methO C.G x) = some (.own d) from h)) fun ob hi h => ?_
    cases ob with
    | list us =>
      refine ob_A (if_of (show (if x = "append" then some (MK.blt "list.append") else none) = some (.own d) from h)) fun z_ e => ?_
      cases e
    | dict es n =>
      refine ob_A (if_of (show (if x = "get" then some (MK.blt "dict.get") else none) = some (.own d) from h)) fun z_ e => ?_
      cases e
    | set es n t =>
      have h : (if x = "add" then some (MK.blt "set.add") else if x = "update" then some (.blt "set.update") else none) = some (.own d) := h
      by_cases h1 : x = "add"
      · rw [if_pos h1] at h; cases h
      · rw [if_neg h1] at h
        refine ob_A (if_of h) fun z_ e => ?_
        cases e
    | tab b => exact nos h
    | inst c fs =>
      have h : (if (fs.lookup x).isSome then none else ((C.G.clss.lookup c).bind (·.ms.lookup x)).map MK.own) = some (.own d) := h
      by_cases h1 : (fs.lookup x).isSome = true
      · rw [if_pos h1] at h; exact nos h
      · rw [if_neg h1] at h
        refine ob_EA (map_of h) fun d' hd e => ?_
        cases e
        refine ob_EA (bind_of hd) fun kl hk hd => ?_
        exact ⟨i, c, fs, kl, rfl, hi, by cases q : fs.lookup x with
          | none => rfl
          | some _ => rw [q] at h1; exact absurd rfl h1, hk, hd⟩
end
section
variable {C : Cx} {F : Fm} {V : Vm} {m : Str → Option Value} {σ σ' : Sg} {U : UTy} {n : Nat} {Q : PV} {s' : Shared} {args : List RV} {vals : List Value} {o : RV} {ou : Value} {rs : List RE}
theorem ev_meth {e : Expr} {a : RE} {x : String} (hX : UpdOk C) (hU : UOk C U n) (h : Ok C U n a) (h' : Oks C U n rs) : EvOk C U n e (.meth a x rs) := by
  intro F V m σ Q hn hm N hw P E hP
  (refine ob_EEEEAAAAA (inv_meth hm) fun o ap es pos o1_ h0 h2 h3 h4 h5 => ?_; subst o1_)
  rw [arm_eval_Call, attrBase h0]
  refine wpAny_bind ((h o).1 hn h2 N hw _ _ fun u σ₁ q r₁ n₁ => ?_)
  (revert q; refine ob_EAr fun ov q hv => ?_)
  refine ob_EA (opt_of q) fun k hk q => ?_
  refine wpAny_bind (wpAny_standAt ?_)
  have few : methodCallForm (es.length + ([] : List Keyword).length) (backTo pos (starEach es V.env)) (backToKw pos (keywordEach [] V.env)) = true := by
    rw [starEach_plain h3, backTo_plain]
    unfold methodCallForm
    show ((es.map fun e => (false, eval e V.env)).all (!·.1) && true && decide (es.length + 0 + 0 < 30)) = true
    rw [Bool.and_true, Bool.and_eq_true]
    exact ⟨by rw [List.all_map]; simp, decide_eq_true (by omega)⟩
  unfold methodCall
  rw [few]
  have hp : methodCallPos true o V.env ap pos = pure pos := by
    unfold methodCallPos
    rw [h4, beq_self_eq_true]; rfl
  have go : ∀ (fv : Value), (∀ h, C.K.In h → ∃ k, (k = Keeper.frame ∨ k = Keeper.machine ∨ k = Keeper.boundFrame) ∧ Looks C.M h (keeperOf fv) k) →
      wpAny C.M F.A (spliced (es.map fun e => (false, eval e V.env))) (fun vs s₂ => C.K.In s₂.heap ∧ wpAny C.M F.A (call fv ([u] ++ vs)) P E s₂) E σ₁.s →
      wpAny C.M F.A (methodCallPos true o V.env ap pos >>= fun callPos => callWith callPos fv [u] (backTo pos (starEach es V.env)) (backToKw pos (keywordEach [] V.env))) P E σ₁.s := fun fv hk hh => by
    rw [hp]
    exact wpAny_bind (wpAny_pure (callWith_R h3 hk hh))
  have NN := N.step r₁ n₁
  cases k with
  | own d =>
    (refine ob_EEEEAAAA (own_of hk) fun i c fs kl o1_ hi hl hkl hd => ?_; subst o1_)
    (refine ob_EA (hv.ref_inv) fun xa o1_ ha => ?_; subst o1_)
    refine ob_EEEEAAAA (r₁.instAt hi ha) fun K dx ds k hc hf hb I g => ?_
    (refine ob_EAAAAA (N.a.O.cl c kl hkl) fun K' hK' z_ z_ z_ o1_ k8 => ?_; revert o1_; refine ob_Ar fun k4 z_ => ?_)
    rw [hc] at hK'
    cases hK'
    refine ob_EAA (k8 _ _ hd) fun f f1 f2 f3 => ?_
    refine wpAny_bind (wpAny_holding (method_inst r₁.fr N.a.X I k4 f1 f2 ((hf.get x).2 hl) ?_))
    refine go (.ref f) (keeps_K (keep_fn f3)) ?_
    refine evs_ok h' hn h3 NN q _ _ fun us σ₂ q₂ r₂ n₂ => ?_
    (revert q₂; refine ob_EAr fun vs q₂ hvs => ?_)
    exact ⟨N.a.inK r₂, wpAny_call (hU hn N.a.weak f3 (.cons (hv.mono n₂.carry) hvs) r₂ q₂ fun u σ₃ q₃ r₃ n₃ => hP u σ₃ q₃ r₃ (n₁.trans (n₂.trans n₃)))⟩
  | blt id =>
    refine wpAny_bind (wpAny_holding (finds_ok r₁ hv hk ?_ _))
    refine go (.builtin id) (fun h X => ⟨.machine, .inr (.inl rfl), Looks.of_pure rfl⟩) ?_
    refine evs_ok h' hn h3 NN q _ _ fun us σ₂ q₂ r₂ n₂ => ?_
    (revert q₂; refine ob_EAr fun vs q₂ hvs => ?_)
    exact ⟨N.a.inK r₂, (mb_ok hX N.a r₂ (hv.mono n₂.carry) hvs q₂).after (n₁.trans n₂) hP⟩
end
section
variable {C : Cx} {F : Fm} {V : Vm} {m : Str → Option Value} {σ σ' : Sg} {U : UTy} {n : Nat} {Q : PV}
end
section
variable {C : Cx} {U : UTy} {n : Nat}
end
theorem erase_perm {α : Type} : ∀ (l : List α) (i : Nat) (h : i < l.length), (l[i] :: l.eraseIdx i).Perm l
  | [], i, h => absurd h (Nat.not_lt_zero _)
  | x :: l, 0, h => .refl _
  | x :: l, i + 1, h => (List.Perm.swap x (l[i]'(by simpa using h)) (l.eraseIdx i)).trans ((erase_perm l i (by simpa using h)).cons x)
theorem map_erase {α β : Type} (g : α → β) : ∀ (l : List α) (i : Nat), (l.map g).eraseIdx i = (l.eraseIdx i).map g
  | [], i => by simp
  | x :: l, 0 => rfl
  | x :: l, i + 1 => by show g x :: (l.map g).eraseIdx i = g x :: (l.eraseIdx i).map g; rw [map_erase g l i]
theorem pick_perm {α : Type} (f : Nat → Nat) : ∀ (fuel k : Nat) (left : List α) (out : Array α), left.length ≤ fuel → ∃ l', (pickOrder.go f fuel k left out).toList = out.toList ++ l' ∧ l'.Perm left
  | 0, k, left, out, h => by
    have : left = [] := List.length_eq_zero_iff.mp (Nat.le_zero.mp h)
    subst this
    exact ⟨[], by simp [pickOrder.go], .refl _⟩
  | fuel + 1, k, left, out, h => by
    unfold pickOrder.go
    cases hx : left[f k % left.length]? with
    | none =>
      refine ⟨[], by simp, ?_⟩
      cases left with
      | nil => exact .refl _
      | cons y r =>
        have : f k % (y :: r).length < (y :: r).length := Nat.mod_lt _ (by simp)
        rw [List.getElem?_eq_getElem this] at hx; cases hx
    | some x =>
      have hi : f k % left.length < left.length := by
        by_cases hi : f k % left.length < left.length
        · exact hi
        · rw [List.getElem?_eq_none (by omega)] at hx; cases hx
      (refine ob_EA (pick_perm f fuel (k + 1) (left.eraseIdx (f k % left.length)) (out.push x) (by rw [List.length_eraseIdx_of_lt hi]; omega)) fun l' h1 h2 => ?_)
      refine ⟨x :: l', by rw [h1]; simp, (List.Perm.cons x h2).trans ?_⟩
      rw [List.getElem?_eq_getElem hi] at hx
      cases hx
      exact erase_perm left _ hi
theorem pick_map {α β : Type} (f : Nat → Nat) (g : α → β) : ∀ (fuel k : Nat) (left : List α) (out : Array α), pickOrder.go f fuel k (left.map g) (out.map g) = (pickOrder.go f fuel k left out).map g
  | 0, k, left, out => rfl
  | fuel + 1, k, left, out => by
    unfold pickOrder.go
    rw [List.length_map, List.getElem?_map]
    cases hx : left[f k % left.length]? with
    | none => rfl
    | some x =>
      have := pick_map f g fuel (k + 1) (left.eraseIdx (f k % left.length)) (out.push x)
      rw [Array.map_push] at this
      dsimp only [Option.map_some]
      rw [← this, map_erase]
noncomputable def walkM {α : Type} (P : Params) (a : Addr) (ep : Nat) (vs : List α) : List α := if P.followText "set-order" = true then (pickOrder (P.setOrder a ep) vs.toArray).toList else vs
theorem walk_perm {α : Type} {P : Params} {a : Addr} {ep : Nat} {vs : List α} : (walkM P a ep vs).Perm vs := by
  unfold walkM
  by_cases h : P.followText "set-order" = true
  · rw [if_pos h]
    refine ob_EA (pick_perm (P.setOrder a ep) vs.length 0 vs #[] (Nat.le_refl _)) fun l' h1 h2 => ?_
    have : (pickOrder (P.setOrder a ep) vs.toArray).toList = l' := by
      rw [show l' = (#[] : Array α).toList ++ l' from rfl, ← h1]; rfl
    rw [this]; exact h2
  · rw [if_neg h]
theorem walk_map {α β : Type} {P : Params} {a : Addr} {ep : Nat} {vs : List α} (g : α → β) : walkM P a ep (vs.map g) = (walkM P a ep vs).map g := by
  unfold walkM
  by_cases h : P.followText "set-order" = true
  · rw [if_pos h, if_pos h]
    have := pick_map (P.setOrder a ep) g vs.length 0 vs #[]
    show (pickOrder.go _ (vs.map g).length 0 (vs.map g) #[]).toList = (pickOrder.go _ vs.length 0 vs #[]).toList.map g
    rw [List.length_map]
    have e : (pickOrder.go (P.setOrder a ep) vs.length 0 (vs.map g) #[]) = (pickOrder.go (P.setOrder a ep) vs.length 0 vs #[]).map g := by rw [← this, Array.map_empty]
    rw [e, Array.toList_map]
  · rw [if_neg h, if_neg h]
theorem rising_at {xs : Array Nat} (h : SetTable.rising xs = true) {i : Nat} (hi : i + 1 < xs.size) : xs.getD i 0 < xs.getD (i + 1) 0 := by
  have := List.all_eq_true.mp h i (List.mem_range.mpr (by omega))
  exact of_decide_eq_true this
theorem rising_lt {xs : Array Nat} (h : SetTable.rising xs = true) : ∀ (d i : Nat), i + d + 1 < xs.size → xs.getD i 0 < xs.getD (i + d + 1) 0
  | 0, i, hi => rising_at h hi
  | d + 1, i, hi => Nat.lt_trans (rising_lt h d i (by omega)) (rising_at h (i := i + d + 1) (by omega))
def slotAt (t : SetTable) (k : Nat) : Nat := if k = 0 then 0 else t.place.getD (k - 1) 0 + 1
theorem below_go {xs : Array Nat} (h : SetTable.rising xs = true) {j k : Nat} (hj : j = if k = 0 then 0 else xs.getD (k - 1) 0 + 1) : ∀ (fuel lo hi : Nat), hi - lo ≤ fuel → lo ≤ k → k ≤ hi → hi ≤ xs.size → SetTable.below.go xs j fuel lo hi = k
  | 0, lo, hi, hf, h1, h2, h3 => by
    show lo = k
    omega
  | fuel + 1, lo, hi, hf, h1, h2, h3 => by
    unfold SetTable.below.go
    by_cases hl : lo < hi
    · rw [if_pos hl]
      dsimp only
      have h4 : lo ≤ (lo + hi) / 2 := by omega
      have h5 : (lo + hi) / 2 < hi := by omega
      generalize (lo + hi) / 2 = m at h4 h5 ⊢
      have hm : m < xs.size := Nat.lt_of_lt_of_le h5 h3
      have e : xs.getD m j = xs.getD m 0 := by
        simp [Array.getD, hm]
      rw [e]
      by_cases hk : m < k
      · have k0 : k ≠ 0 := Nat.ne_of_gt (Nat.lt_of_le_of_lt (Nat.zero_le _) hk)
        rw [if_neg k0] at hj
        have : xs.getD m 0 ≤ xs.getD (k - 1) 0 := by
          by_cases he : m = k - 1
          · rw [he]; exact Nat.le_refl _
          · have := rising_lt h (k - 1 - m - 1) m (by lia)
            rw [show m + (k - 1 - m - 1) + 1 = k - 1 by lia] at this
            exact Nat.le_of_lt this
        rw [if_pos (by rw [hj]; exact Nat.lt_succ_of_le this)]
        exact below_go h (by rw [if_neg k0]; exact hj) fuel _ hi (by lia) hk h2 h3
      · rw [if_neg]
        · exact below_go h hj fuel lo _ (by lia) h1 (Nat.le_of_not_lt hk) (Nat.le_of_lt hm)
        · by_cases k0 : k = 0
          · rw [if_pos k0] at hj; rw [hj]; exact Nat.not_lt_zero _
          · rw [if_neg k0] at hj
            have := rising_lt h (m - (k - 1) - 1) (k - 1) (by lia)
            rw [show k - 1 + (m - (k - 1) - 1) + 1 = m by lia] at this
            rw [hj]
            exact Nat.not_lt.mpr this
    · rw [if_neg hl]; omega
theorem below_slot {t : SetTable} (h : SetTable.rising t.place = true) {k : Nat} (hk : k ≤ t.place.size) : SetTable.below t.place (slotAt t k) = k :=
  below_go h rfl _ _ _ (by omega) (Nat.zero_le _) hk (Nat.le_refl _)
theorem slot_setit_next : Slot "set_iterator" "__next__" "set_iterator.__next__" :=
  .of (owner := "set_iterator") (n := "__next__") (by rw [typeLookup_type, builtinLookup_eq_fast]; kernel_rfl) (by decide +kernel) (by decide +kernel) (by decide +kernel)
    (by first | exact .inl (by decide +kernel) | exact .inr (by decide +kernel)) (by rw [isSubtype_type]; kernel_rfl)
theorem entry_setit_next : entryFor table "set_iterator.__next__" = some Builtin.«set_iterator.__next__» := entryFor_of_fast (by kernel_rfl)
theorem args_setit_next (a : Value) : argsOk "set_iterator.__next__" ⟨[a], []⟩ := by unfold argsOk; kernel_rfl
theorem slot_setit_iter : Slot "set_iterator" "__iter__" "set_iterator.__iter__" :=
  .of (owner := "set_iterator") (n := "__iter__") (by rw [typeLookup_type, builtinLookup_eq_fast]; kernel_rfl) (by decide +kernel) (by decide +kernel) (by decide +kernel)
    (by first | exact .inl (by decide +kernel) | exact .inr (by decide +kernel)) (by rw [isSubtype_type]; kernel_rfl)
theorem entry_setit_iter : entryFor table "set_iterator.__iter__" = some Builtin.«dict_keyiterator.__iter__» := entryFor_alias (id' := "dict_keyiterator.__iter__") (by kernel_rfl) rfl (by decide +kernel) (by kernel_rfl)
theorem args_setit_iter (a : Value) : argsOk "set_iterator.__iter__" ⟨[a], []⟩ := by unfold argsOk; kernel_rfl
theorem entry_set_iter : entryFor table "set.__iter__" = some Builtin.«frozenset.__iter__» := entryFor_alias (id' := "frozenset.__iter__") (by kernel_rfl) rfl (by decide +kernel) (by kernel_rfl)
section
variable {C : Cx} {A : Around} {E : Value → Shared → Prop} {s : Shared} {a I : Addr} {vs : List (Int × Value)} {ep k j : Nat} {t : SetTable} {o : Obj}
theorem not_drawn {es : Array (Int × Value)} (hp : t.plain = true) : (!(ledO C t).plain && decide (es.size > 1)) = false := by
  rw [show (ledO C t).plain = t.plain from rfl, hp]; rfl
theorem setNext_ok (g : s.heap.get? a = some (setO vs ep (ledO C t))) (hf : t.fits vs.length = true) (hp : t.plain = true) (hr : SetTable.rising t.place = true) (hk : k ≤ vs.length) {Q : Option (Value × Nat) → Shared → Prop}
    (h0 : C.P.followText "set-order" = true → j = 0) (h1 : C.P.followText "set-order" = false → j = slotAt t k)
    (h : ∀ j', (C.P.followText "set-order" = true → j' = 0) → (C.P.followText "set-order" = false → k < vs.length → j' = slotAt t (k + 1)) → Q (((walkM C.P a ep vs)[k]?).map fun e => (e.2, j')) s) : wpAny C.M A (setNext a j k ep) Q E s := by
  have st : ∀ {Q : (Array (Int × Value) × Nat × SetTable) → Shared → Prop}, Q (vs.toArray, ep, ledO C t) s → wpAny C.M A (setState a) Q E s := fun h => wpAny_setState_of g rfl (by rw [List.size_toArray]; exact hf) h
  unfold setNext
  refine wpAny_bind (st ?_)
  dsimp only
  refine wpAny_bind (wpAny_bind (wpAny_askSetting (wpAny_pure ?_)))
  dsimp only
  cases hb : C.P.followText "set-order" with
  | true =>
    rw [if_pos (show C.M.w.params.followText "set-order" = true from hb)]
    rw [if_neg (by simp)]
    refine wpAny_bind ?_
    unfold setWalk
    refine wpAny_bind (st ?_)
    dsimp only
    refine wpAny_bind (wpAny_bind (wpAny_askSetting (wpAny_pure ?_)))
    rw [if_pos (show C.M.w.params.followText "set-order" = true from hb)]
    refine wpAny_bind (wpAny_askSetting (wpAny_pure (wpAny_pure ?_)))
    have := h 0 (fun z_ => rfl) (fun e => by rw [hb] at e; cases e)
    unfold walkM at this
    rw [if_pos hb] at this
    rw [h0 hb, ← Array.getElem?_toList]
    exact this
  | false =>
    rw [if_neg (show ¬ C.M.w.params.followText "set-order" = true from fun e => by rw [show C.M.w.params.followText "set-order" = false from hb] at e; cases e)]
    rw [if_neg (show ¬ (_ = true) from fun e => by have e : (!(ledO C t).plain && decide (vs.toArray.size > 1)) = true := e; rw [not_drawn hp] at e; cases e)]
    refine wpAny_bind (wpAny_of_eq (a := ()) (by
      show (if (!(ledO C t).led && !vs.toArray.isEmpty) = true then _ else _) = _
      rw [if_neg (by rw [show (ledO C t).led = !(C.P.followText "set-order") from rfl, hb]; exact Bool.false_ne_true)]) ?_)
    refine wpAny_pure ?_
    have hz : t.place.size = vs.length := by
      unfold SetTable.fits at hf
      rw [Bool.and_eq_true] at hf
      exact eq_of_beq hf.1
    rw [h1 hb, show (ledO C t).place = t.place from rfl, below_slot hr (by omega)]
    have := h (slotAt t (k + 1)) (fun e => by rw [hb] at e; cases e) (fun z_ z_ => rfl)
    unfold walkM at this
    rw [if_neg (by rw [hb]; exact Bool.false_ne_true)] at this
    have e1 : vs.toArray[k]? = vs[k]? := by simp
    rw [e1]
    by_cases hlt : k < vs.length
    · rw [List.getElem?_eq_getElem hlt] at this ⊢
      rw [Array.getElem?_eq_getElem (by omega)]
      rw [show slotAt t (k + 1) = t.place[k] + 1 from by unfold slotAt; simp [Array.getD, hz, hlt]] at this
      exact this
    · rw [List.getElem?_eq_none (by omega)] at this ⊢
      exact this
abbrev sitO (j k : Nat) (a : Addr) (n ep : Nat) : Data := .fields #[.int j 0, .int k 0, .ref a, .int n 0, .int ep 0]
theorem setit_item {Q : Option Value → Shared → Prop} (gI : s.heap.get? I = some o) (hc : o.cls = .type "set_iterator") (hd : o.data = sitO j k a vs.length ep) (g : s.heap.get? a = some (setO vs ep (ledO C t))) (hf : t.fits vs.length = true)
    (hp : t.plain = true) (hr : SetTable.rising t.place = true) (h0 : C.P.followText "set-order" = true → j = 0) (h1 : C.P.followText "set-order" = false → j = slotAt t k) {e : Int × Value} (he : (walkM C.P a ep vs)[k]? = some e)
    (h : ∀ j' o' h', (C.P.followText "set-order" = true → j' = 0) → (C.P.followText "set-order" = false → j' = slotAt t (k + 1)) → h'.get? I = some o' → o'.cls = .type "set_iterator" → o'.data = sitO j' (k + 1) a vs.length ep → KeepBut I s.heap h' → Q (some e.2) { s with heap := h' }) : wpAny C.M A (pyNext (.ref I)) Q E s := by
  have hT : s.TypeIs (.ref I) "set_iterator" := ⟨o, gI, hc⟩
  have hlt : k < vs.length := by
    rw [← (walk_perm (P := C.P) (a := a) (ep := ep) (vs := vs)).length_eq]
    by_cases h : k < (walkM C.P a ep vs).length
    · exact h
    · rw [List.getElem?_eq_none (by omega)] at he; cases he
  unfold pyNext
  refine wpAny_bind (wpAny_attempt (wpAny_callSpecial?_slot (name := Str.ofString "__next__") hT slot_setit_next (wpAny_call_entry slot_setit_next hT entry_setit_next ?_ (args_setit_next _))))
  unfold Builtin.«set_iterator.__next__»
  refine wpAny_bind (wpAny_pure ?_)
  refine wpAny_bind (wpAny_fieldsOf gI hd ?_)
  show wpAny _ _ (setEntries a >>= _) _ _ s
  refine wpAny_bind (wpAny_bind (wpAny_setState_of g rfl (by rw [List.size_toArray]; exact hf) (wpAny_pure ?_)))
  rw [if_neg (by simp)]
  dsimp only
  rw [Int.toNat_natCast, Int.toNat_natCast, Int.toNat_natCast]
  refine wpAny_bind (setNext_ok g hf hp hr (Nat.le_of_lt hlt) h0 h1 fun j' e0 e1 => ?_)
  rw [he, Option.map_some]
  dsimp only
  refine wpAny_bind (wpAny_setField gI hd (by simp) ?_)
  refine wpAny_bind (wpAny_setField (s := { s with heap := s.heap.update I (Obj.mapFields (·.setIfInBounds 0 (rawInt j'))) }) (Heap.get?_update_self _ gI (Obj.isFreed_of_fields (Obj.data_mapFields hd _))) (Obj.data_mapFields hd _) (by simp) ?_)
  refine wpAny_pure ⟨_, rfl, wpAny_pure (h j' _ _ e0 (fun q => e1 q hlt) (Heap.get?_update_self _ (Heap.get?_update_self _ gI (Obj.isFreed_of_fields (Obj.data_mapFields hd _))) (Obj.isFreed_of_fields (Obj.data_mapFields (Obj.data_mapFields hd _) _))) ?_ ?_ ?_)⟩
  · exact (Obj.cls_mapFields ..).trans ((Obj.cls_mapFields ..).trans hc)
  · rw [Obj.data_mapFields (Obj.data_mapFields hd _)]
    simp [rawInt, sitO]
  · exact fun b x hb e => by rw [Heap.get?_update_ne _ _ _ _ hb, Heap.get?_update_ne _ _ _ _ hb]; exact e
theorem setit_end {Q : Option Value → Shared → Prop} (hh : A.handled = none) (gI : s.heap.get? I = some o) (hc : o.cls = .type "set_iterator") (hd : o.data = sitO j k a vs.length ep) (g : s.heap.get? a = some (setO vs ep (ledO C t))) (hf : t.fits vs.length = true)
    (hp : t.plain = true) (hr : SetTable.rising t.place = true) (h0 : C.P.followText "set-order" = true → j = 0) (h1 : C.P.followText "set-order" = false → j = slotAt t k) (hk : k = vs.length)
    (h : ∀ h', KeepBut I s.heap h' → Q none { s with heap := h' }) : wpAny C.M A (pyNext (.ref I)) Q E s := by
  have hT : s.TypeIs (.ref I) "set_iterator" := ⟨o, gI, hc⟩
  have he : (walkM C.P a ep vs)[k]? = none := List.getElem?_eq_none (by rw [walk_perm.length_eq]; omega)
  unfold pyNext
  refine wpAny_bind (wpAny_attempt (wpAny_callSpecial?_slot (name := Str.ofString "__next__") hT slot_setit_next (wpAny_call_entry slot_setit_next hT entry_setit_next ?_ (args_setit_next _))))
  unfold Builtin.«set_iterator.__next__»
  refine wpAny_bind (wpAny_pure ?_)
  refine wpAny_bind (wpAny_fieldsOf gI hd ?_)
  show wpAny _ _ (setEntries a >>= _) _ _ s
  refine wpAny_bind (wpAny_bind (wpAny_setState_of g rfl (by rw [List.size_toArray]; exact hf) (wpAny_pure ?_)))
  rw [if_neg (by simp)]
  dsimp only
  rw [Int.toNat_natCast, Int.toNat_natCast, Int.toNat_natCast]
  refine wpAny_bind (setNext_ok g hf hp hr (Nat.le_of_eq hk) h0 h1 fun j' e0 e1 => ?_)
  rw [he, Option.map_none]
  dsimp only
  refine wpAny_bind (wpAny_setField gI hd (by simp) ?_)
  refine wpAny_bind ?_
  simp only [newExc, newTuple]
  refine wpAny_bind (wpAny_newObj_type ?_ (by size_fits))
  refine wpAny_bind (m := firstArgMember _ _) (wpAny_of_eq (a := Value.none) (by first | rfl | (simp only [firstArgMember]; rfl)) ?_)
  refine wpAny_newObj_type ?_ (by size_fits)
  simp only [raiseNew]
  refine wpAny_bind (wpAny_handled ?_)
  rw [show A.in1.handled = none from hh]
  refine wpAny_bind (wpAny_pure (wpAny_throw ?_))
  refine wpAny_bind (wpAny_isInstance (T := "StopIteration") (b := true) ⟨_, Heap.get?_push_size _ rfl, rfl⟩ isSubtype_stop ?_)
  exact wpAny_pure (h _ fun b x hb e => (((Heap.SameBut.update ..).extBut.push _).push _) b x hb e)
theorem iter_set {Q : Value → Shared → Prop} (g : s.heap.get? a = some (setO vs ep (ledO C t))) (hf : t.fits vs.length = true) (hp : t.plain = true)
    (h : Q (.ref s.heap.objs.size) { s with heap := s.heap.push { cls := .type "set_iterator", data := sitO 0 0 a vs.length ep } }) : wpAny C.M A (pyIter (.ref a)) Q E s := by
  have hT : s.TypeIs (.ref a) "set" := ⟨_, g, rfl⟩
  have st : ∀ {A : Around} {E : Value → Shared → Prop} {Q : (Array (Int × Value) × Nat × SetTable) → Shared → Prop}, Q (vs.toArray, ep, ledO C t) s → wpAny C.M A (setState a) Q E s := fun h => wpAny_setState_of g rfl (by rw [List.size_toArray]; exact hf) h
  refine wpAny_pyIter_slot hT PySem.F.slot_set_iter (wpAny_call_entry PySem.F.slot_set_iter hT entry_set_iter ?_ (PySem.F.args_set_iter_1 _))
  unfold Builtin.«frozenset.__iter__»
  refine wpAny_bind ?_
  unfold Builtin.Frozenset.slot0
  refine wpAny_bind (wpAny_pure ?_)
  refine wpAny_pure ?_
  refine wpAny_bind (wpAny_bind (wpAny_bind (st (wpAny_pure (wpAny_pure ?_)))))
  refine wpAny_bind ?_
  unfold setDrawn
  refine wpAny_bind (st ?_)
  dsimp only
  refine wpAny_bind (wpAny_bind (wpAny_askSetting (wpAny_pure (wpAny_pure ?_))))
  rw [if_neg (show ¬ (_ = true) from fun e => by
    rw [Bool.and_eq_true] at e
    have e' : (!(ledO C t).plain && decide (vs.toArray.size > 1)) = true := e.2
    rw [not_drawn hp] at e'; cases e')]
  refine wpAny_bind (wpAny_pure ?_)
  refine wpAny_bind (wpAny_bind (st (wpAny_pure ?_)))
  refine wpAny_bind (wpAny_newObj_type (wpAny_pure ⟨_, rfl, "set_iterator", _, ⟨_, Heap.get?_push_size _ rfl, rfl⟩, slot_setit_next.lookup, ?_⟩))
  simpa [rawInt, sitO] using h
theorem iter_setit {Q : Value → Shared → Prop} (gI : s.heap.get? I = some o) (hc : o.cls = .type "set_iterator") (h : Q (.ref I) s) : wpAny C.M A (pyIter (.ref I)) Q E s := by
  have hT : s.TypeIs (.ref I) "set_iterator" := ⟨o, gI, hc⟩
  refine wpAny_pyIter_slot hT slot_setit_iter (wpAny_call_entry slot_setit_iter hT entry_setit_iter ?_ (args_setit_iter _))
  show wpAny _ _ (ret (.ref I)) _ _ s
  exact wpAny_pure ⟨_, rfl, "set_iterator", _, hT, slot_setit_next.lookup, h⟩
end
end Mine
section
set_option genSizeOfSpec false
set_option genInjectivity false
set_option genSizeOf false
namespace Mine
open PySem PySem.W PySem.Calls PyProof.Rows PySem.SeqAt
def Seen (σ : Sg) (i ep : Nat) (o₀ : RO) : Prop := ∃ o ep', σ.H[i]? = some o ∧ epOf o = some ep' ∧ ep ≤ ep' ∧ (ep = ep' → face o = face o₀)
def StandsAt (C : Cx) (t : SetTable) (k j : Nat) : Prop := (C.P.followText "set-order" = true → j = 0) ∧ (C.P.followText "set-order" = false → j = slotAt t k)
inductive ItO (C : Cx) (σ : Sg) : Src → Nat → Obj → Prop where
  | list {i k : Nat} {a : Addr} {o : Obj} : adr σ.ad i = some a → o.cls = .type "list_iterator" → o.data = .fields #[.ref a, .int k 0] → ItO C σ (.list i) k o
  | tup {us : List RV} {k : Nat} {a : Addr} {o : Obj} : VRel C σ (.tup us) (.ref a) → o.cls = .type "tuple_iterator" → o.data = .fields #[.ref a, .int k 0] → ItO C σ (.items us) k o
  | rng {x y : Int} {k : Nat} {o : Obj} : o = { cls := .type "range_iterator", data := .fields #[rawInt (x + (k : Nat) * 1), rawInt (((y - x).toNat : Int) - (k : Nat)), rawInt 1] } → ItO C σ (.items (rngL x y 1)) k o
  | set {i ep k j : Nat} {es : List (Int × RV)} {t : SetTable} {a : Addr} {o : Obj} : adr σ.ad i = some a → o.cls = .type "set_iterator" → o.data = sitO j k a es.length ep → Seen σ i ep (.set es ep t) → t.plain = true → SetTable.rising t.place = true → StandsAt C t k j → k ≤ es.length →
      ItO C σ (.kept i ep ((walkM C.P a ep es).map (·.2))) k o
section
variable {C : Cx} {F : Fm} {m : Str → Option Value} {X : Addr → Prop} {σ σ' : Sg} {src : Src} {k : Nat} {I : Addr} {o : Obj} {E : Value → Shared → Prop}
theorem Seen.step {i ep : Nat} {o₀ : RO} (h : Seen σ i ep o₀) (x : Hx σ.H σ'.H) : Seen σ' i ep o₀ := by
  (revert h; refine ob_EEAAAr fun o ep' h1 h2 h3 h4 => ?_)
  refine ob_EA (x i o h1) fun o' g ag => ?_
  refine ob_EAA (ag ep' h2) fun e' k1 k2 k3 => ?_
  exact ⟨o', e', g, k1, Nat.le_trans h3 k2, fun q => by
    have q1 : ep = ep' := Nat.le_antisymm h3 (q ▸ k2)
    rw [k3 (q1 ▸ q), h4 q1]⟩
theorem ItO.mono (h : ItO C σ src k o) (c : Carry σ σ') (x : Hx σ.H σ'.H) : ItO C σ' src k o := by
  cases h with
  | list a b d => exact .list (c.adr a) b d
  | tup a b d => exact .tup (a.mono c) b d
  | rng a => exact .rng a
  | set a b d s p r t l => exact .set (c.adr a) b d (s.step x) p r t l
theorem ItO.step (h : ItO C σ src k o) (x : Nx X σ σ') : ItO C σ' src k o := h.mono x.carry x.hx
theorem ItO.quiet (h : ItO C σ src k o) : idle o ∧ stb o := by
  cases h with
  | list a b d => exact ⟨by rw [idle, b]; simp, by rw [stb, d]; simp⟩
  | tup a b d => exact ⟨by rw [idle, b]; simp, by rw [stb, d]; simp⟩
  | rng a => rw [a]; exact ⟨by simp [idle], by simp [stb]⟩
  | set a b d s => exact ⟨by rw [idle, b]; simp, by rw [stb, d]; simp⟩
structure Held (F : Fm) (σ : Sg) (I : Addr) (o : Obj) : Prop where
  std : Std F σ I o
  low : F.h₀.get? I = none
theorem Held.step (h : Held F σ I o) (x : Nx (NL F) σ σ') : Held F σ' I o := ⟨h.std.step x, h.low⟩
theorem Held.stepS (h : Held F σ I o) (q : stb o) (x : Nx X σ σ') : Held F σ' I o := ⟨⟨x.off h.std.1 h.std.2.2, h.std.2.1, x.frm I o h.std.1 (fun z_ => q) h.std.2.2⟩, h.low⟩
structure Turned (C : Cx) (F : Fm) (m : Str → Option Value) (σ : Sg) (I : Addr) (s' : Shared) : Prop where
  r : Rel C F m (σ.at s')
  c : Carry σ (σ.at s')
  but : KeepBut I σ.h s'.heap
  sm : Sm σ.s s'
theorem Held.turn (h : Held F σ I o) (r : Rel C F m σ) (q : ¬ fixd o) {h' : Heap} {k : Nat} (hk : KeepBut I σ.h h') : Turned C F m σ I { σ.s with heap := h', toks := k } :=
  ⟨r.tick (s' := { σ.s with heap := h', toks := k }) h.std.2.2 q h.std.1 h.std.2.1 h.low hk, tick_carry (s' := { σ.s with heap := h', toks := k }) h.std.2.2 q hk, hk, ⟨rfl, rfl, rfl⟩⟩
theorem Held.now (h : Held F σ I o) {s' : Shared} {o' : Obj} (g : s'.heap.get? I = some o') : Held F (σ.at s') I o' := ⟨⟨h.std.1, h.std.2.1, g⟩, h.low⟩
theorem Pairs.snd {A : Around} {E : Value → Shared → Prop} {es : List (Int × RV)} {vs : List (Int × Value)} (r : SetRel C σ es vs) : ∃ zs : List ((Int × RV) × (Int × Value)), es = zs.map (·.1) ∧ vs = zs.map (·.2) ∧ ∀ z ∈ zs, VRel C σ z.1.2 z.2.2 := by
  induction r with
  | nil => exact ⟨[], rfl, rfl, fun z h => by cases h⟩
  | @cons k u v fs es i x _ ih =>
    (revert ih; refine ob_EAAr fun zs o1_ o2_ h => ?_; subst o1_; subst o2_)
    refine ⟨((k, u), (k, v)) :: zs, rfl, rfl, fun z hz => ?_⟩
    rcases List.mem_cons.mp hz with rfl | hz
    · exact x
    · exact h z hz
theorem face_set {o : RO} {es : List (Int × RV)} {ep : Nat} {t : SetTable} (h : face o = face (.set es ep t)) : o = .set es ep t := by
  cases o with
  | set es' ep' t' => exact h
  | _ => exact absurd h (by intro h; cases h)
theorem kept_of {H : RH} {i ep k : Nat} {vs : List RV} {x : Option RV} (h : peek (.kept i ep vs) H k = some x) : (H[i]?).bind epOf = some ep ∧ x = vs[k]? := by
  refine ob_A (if_of (show (if (H[i]?).bind epOf = some ep then some vs[k]? else none) = some x from h)) fun a b => ?_
  exact ⟨a, b.symm⟩
theorem Seen.now {i ep : Nat} {o₀ : RO} (h : Seen σ i ep o₀) (e : (σ.H[i]?).bind epOf = some ep) : ∃ o, σ.H[i]? = some o ∧ face o = face o₀ ∧ epOf o = some ep := by
  (revert h; refine ob_EEAAAr fun o ep' h1 h2 h3 h4 => ?_)
  rw [h1, Option.bind_some, h2] at e
  cases e
  exact ⟨o, h1, h4 rfl, h2⟩
theorem next_ok (a : Act C F) (r : Rel C F m σ) (S : Held F σ I o) (it : ItO C σ src k o) {x : Option RV} (hp : peek src σ.H k = some x) {Q : Option Value → Shared → Prop}
    (h1 : ∀ v u o' s', x = some v → VRel C (σ.at s') v u → Held F (σ.at s') I o' → ItO C (σ.at s') src (k + 1) o' → Turned C F m σ I s' → Q (some u) s')
    (h2 : ∀ s', x = none → Turned C F m σ I s' → Q none s') : wpAny C.M F.A (pyNext (.ref I)) Q E σ.s := by
  have hq := it.quiet.1.nf
  have g := S.std.2.2
  have fin : x = none → ∀ h', Heap.ExtBut I σ.h h' → Q none { σ.s with heap := h' } := fun e h' he => h2 _ e (S.turn (k := σ.s.toks) r hq fun b y hb e => he b y hb e)
  cases it with
  | @list i _ l _ al c d =>
    refine ob_EA (bind_of hp) fun vs hv hx => ?_
    refine ob_EA (bind_of hv) fun ob ho hl => ?_
    rw [asL_of hl] at ho
    cases hx
    refine ob_EEAA (r.listAt ho al) fun ws n R1 z_ gl => ?_
    cases hx : vs[k]? with
    | some v =>
      refine ob_EA (R1.get k v hx) fun u hu hr => ?_
      refine wpAny_pyNext_list_item ⟨o, g, c, d⟩ (isList_of gl) (by simpa using hu) fun h' hit' hsb => ?_
      (revert hit'; refine ob_EAAr fun o' g' c' d' => ?_)
      have T := S.turn (k := σ.s.toks) r hq fun b y hb e => hsb.extBut b y hb e
      exact h1 v u o' _ hx (hr.mono T.c) (S.now g') (.list al c' d') T
    | none =>
      refine wpAny_pyNext_list_end a.hd ⟨o, g, c, d⟩ (isList_of gl) ?_ (fin hx)
      rw [List.getElem?_eq_none_iff, R1.length] at hx
      simp; omega
  | @tup us _ l _ al c d =>
    cases hp
    refine ob_EEEAA (al.tup_at (a.inK r)) fun l' ws n e gl R1 => ?_
    cases e
    cases hx : us[k]? with
    | some v =>
      refine ob_EA (R1.get k v hx) fun u hu hr => ?_
      refine wpAny_pyNext_tuple_item (items := ws.toArray) ⟨o, g, c, d⟩ ⟨_, gl, rfl, n, rfl⟩ (by simpa using hu) fun h' hit' hsb => ?_
      (revert hit'; refine ob_EAAr fun o' g' c' d' => ?_)
      have T := S.turn (k := σ.s.toks) r hq fun b y hb e => hsb.extBut b y hb e
      exact h1 v u o' _ hx (hr.mono T.c) (S.now g') (.tup (al.mono T.c) c' d') T
    | none =>
      refine wpAny_pyNext_tuple_end (items := ws.toArray) a.hd ⟨o, g, c, d⟩ ⟨_, gl, rfl, n, rfl⟩ ?_ (fin hx)
      rw [List.getElem?_eq_none_iff, R1.length] at hx
      simp; omega
  | @rng x' y _ _ e =>
    cases hp
    subst e
    by_cases hlt : (k : Int) < y - x'
    · have hx : (rngL x' y 1)[k]? = some (.int (x' + k)) := by rw [rngL_get, if_pos hlt]
      refine wpAny_pyNext_range_item g (by omega) fun h' hit' hsb => ?_
      have e1 : x' + (k : Int) * 1 + 1 = x' + ((k + 1 : Nat) : Int) * 1 := by push_cast; omega
      have e2 : ((y - x').toNat : Int) - (k : Int) - 1 = ((y - x').toNat : Int) - ((k + 1 : Nat) : Int) := by push_cast; omega
      rw [e1, e2] at hit'
      have T := S.turn (k := σ.s.toks + 1) r hq fun b y hb e => hsb.extBut b y hb e
      refine h1 _ _ _ _ hx ?_ (S.now hit') (.rng rfl) T
      rw [show x' + (k : Int) = x' + (k : Int) * 1 from by omega]; exact .int _ _
    · have hx : (rngL x' y 1)[k]? = none := by rw [rngL_get, if_neg hlt]
      exact wpAny_pyNext_range_end a.hd g (by omega) (fin hx)
  | @set i ep _ j es t d' _ al c d s pl rs sa kl =>
    (refine ob_A (kept_of hp) fun hep o1_ => ?_; subst o1_)
    refine ob_EAA (s.now hep) fun ob ho hf he => ?_
    rw [face_set hf] at ho
    refine ob_EAAA (r.setAt ho al) fun vs gd R1 f z_ => ?_
    have ln : es.length = vs.length := R1.len
    rw [ln] at d
    refine ob_EAA (Pairs.snd (A := F.A) (E := E) R1) fun zs e1 e2 hz => ?_
    have w1 : walkM C.P d' ep es = (walkM C.P d' ep zs).map (·.1) := by rw [e1, walk_map]
    have w2 : walkM C.P d' ep vs = (walkM C.P d' ep zs).map (·.2) := by rw [e2, walk_map]
    cases hx : ((walkM C.P d' ep es).map (·.2))[k]? with
    | some v =>
      have hx' := hx
      rw [w1, List.getElem?_map, List.getElem?_map] at hx'
      (refine ob_EA (map_of hx') fun q hq' o1_ => ?_; subst o1_)
      (refine ob_EA (map_of hq') fun z hz' o1_ => ?_; subst o1_)
      have hv : (walkM C.P d' ep vs)[k]? = some z.2 := by rw [w2, List.getElem?_map, hz']; rfl
      have hzm : z ∈ zs := walk_perm.mem_iff.mp (List.mem_of_getElem? hz')
      refine setit_item g c d gd f pl rs sa.1 sa.2 hv fun j' o' h' j0 j1 g' c' d'' bt => ?_
      have T := S.turn (k := σ.s.toks) r hq bt
      rw [← ln] at d''
      exact h1 _ _ o' _ hx ((hz z hzm).mono T.c) (S.now g') (.set al c' d'' s pl rs ⟨j0, j1⟩ (by
        have := List.getElem?_eq_some_iff.mp hz'
        have l1 := this.1
        rw [walk_perm.length_eq] at l1
        rw [e1, List.length_map]; exact l1)) T
    | none =>
      have hkv : k = vs.length := by
        rw [List.getElem?_eq_none_iff, List.length_map, walk_perm.length_eq] at hx
        omega
      exact setit_end a.hd g c d gd f pl rs sa.1 sa.2 hkv fun h' bt => fin hx h' fun b y hb e => bt b y hb e
end
end Mine
end
namespace Mine
open PySem PySem.W PySem.Calls PyProof.Rows PySem.SeqAt
theorem lookup_relabel {env : Env} (x : Str) : ∀ (names : List (Str × NameKind)),
    (names.map fun (n, k) => if (k == NameKind.free && env.scope.kind == .function && env.kindOf n == some .cell) then (n, NameKind.cell) else (n, k)).lookup x
      = (names.lookup x).map fun k => if (k == NameKind.free && env.scope.kind == .function && env.kindOf x == some .cell) then NameKind.cell else k
  | [] => rfl
  | (n, k) :: r => by
    have ih := lookup_relabel (env := env) x r
    show List.lookup x ((if (k == NameKind.free && env.scope.kind == .function && env.kindOf n == some .cell) = true then (n, NameKind.cell) else (n, k)) :: _) = _
    cases hx : x == n with
    | true =>
      have e := eq_of_beq hx
      subst e
      by_cases hc : (k == NameKind.free && env.scope.kind == .function && env.kindOf x == some .cell) = true
      · rw [if_pos hc]; simp only [List.lookup_cons, hx, Option.map_some]; rw [if_pos hc]
      · rw [if_neg hc]; simp only [List.lookup_cons, hx, Option.map_some]; rw [if_neg hc]
    | false =>
      by_cases hc : (k == NameKind.free && env.scope.kind == .function && env.kindOf n == some .cell) = true
      · rw [if_pos hc]; simp only [List.lookup_cons, hx]; exact ih
      · rw [if_neg hc]; simp only [List.lookup_cons, hx]; exact ih
theorem clos_go {env : Env} : ∀ (names : List (Str × NameKind)) (cs : List (Str × Addr)), (∀ q ∈ names, q.2 = .free → ∃ c, env.cells.lookup q.1 = some c) → (∀ y c, cs.lookup y = some c → env.cells.lookup y = some c) →
    ∃ cl, (forIn names cs (fun (x : Str × NameKind) (r : List (Str × Addr)) => if (x.2 == NameKind.free) = true then cellOf env x.1 >>= fun c => pure (ForInStep.yield ((x.1, c) :: r)) else pure (ForInStep.yield r)) : Sem (List (Str × Addr))) = pure cl ∧
      (∀ y c, cl.lookup y = some c → env.cells.lookup y = some c) ∧ ∀ y, ((∃ q ∈ names, q.1 = y ∧ q.2 = .free) ∨ (cs.lookup y).isSome = true) → (cl.lookup y).isSome = true
  | [], cs, _, hcs => ⟨cs, rfl, hcs, fun y h => by
      rcases h with ⟨q, hq, _⟩ | h
      · cases hq
      · exact h⟩
  | (m, k) :: r, cs, hn, hcs => by
    rw [List.forIn_cons]
    cases hk : k == NameKind.free with
    | true =>
      have ek : k = .free := eq_of_beq hk
      refine ob_E (hn (m, k) (.head _) ek) fun c hc => ?_
      have hcs' : ∀ y c', ((m, c) :: cs).lookup y = some c' → env.cells.lookup y = some c' := fun y c' h => by
        rw [List.lookup_cons] at h
        cases hy : y == m with
        | true => rw [hy] at h; rw [eq_of_beq hy]; simp only [Option.some.injEq] at h; rw [← h]; exact hc
        | false => rw [hy] at h; exact hcs y c' h
      refine ob_EAA (clos_go r ((m, c) :: cs) (fun q hq => hn q (.tail _ hq)) hcs') fun cl h1 h2 h3 => ?_
      refine ⟨cl, ?_, h2, fun y h => h3 y ?_⟩
      · rw [← h1]
        have : cellOf env m = pure c := by unfold cellOf; rw [hc]
        simp only [hk, if_true, this, pure_bind]
      · rcases h with ⟨q, hq, e1, e2⟩ | h
        · rcases List.mem_cons.mp hq with rfl | hq
          · right; rw [List.lookup_cons, ← e1]; simp
          · exact .inl ⟨q, hq, e1, e2⟩
        · right
          rw [List.lookup_cons]
          cases hy : y == m with
          | true => rfl
          | false => exact h
    | false =>
      refine ob_EAA (clos_go r cs (fun q hq => hn q (.tail _ hq)) hcs) fun cl h1 h2 h3 => ?_
      refine ⟨cl, ?_, h2, fun y h => h3 y ?_⟩
      · rw [← h1]
        simp only [hk, Bool.false_eq_true, if_false, pure_bind]
      · rcases h with ⟨q, hq, e1, e2⟩ | h
        · rcases List.mem_cons.mp hq with rfl | hq
          · simp only at e2; subst e2; cases hk
          · exact .inl ⟨q, hq, e1, e2⟩
        · exact .inr h
theorem clos_ok {sc : Scope} {env : Env} (h : ∀ q ∈ sc.names, q.2 = .free → ∃ c, env.cells.lookup q.1 = some c) :
    ∃ cl, closureFor sc env = pure cl ∧ ∀ y, sc.names.lookup y = some .free → cl.lookup y = env.cells.lookup y := by
  refine ob_EAA (clos_go (env := env) sc.names [] h (fun y c e => by simp at e)) fun cl h1 h2 h3 => ?_
  refine ⟨cl, ?_, fun y hy => ?_⟩
  · rw [← h1]
    simp only [closureFor, bind_pure]
    try rfl
  · have := h3 y (.inl ⟨(y, .free), lookup_mem hy, rfl, rfl⟩)
    refine ob_E (Option.isSome_iff_exists.mp this) fun c hc => ?_
    rw [hc, h2 y c hc]
structure ScOk (ns : Ns) (xs : List Str) (sc : Scope) : Prop where
  knd : sc.kind = .function
  nd : (sc.names.map (·.1)).Nodup
  free : ∀ q ∈ sc.names, q.2 = .free → ns.lookup q.1 = some .cell ∨ ns.lookup q.1 = some .free
  hx : ∀ x ∈ xs, sc.names.lookup x = some .local
  cell : ∀ q ∈ sc.names, q.2 ≠ .cell
  loc : ∀ q ∈ sc.names, q.2 = .local → q.1 ∈ xs ∨ q.1 = (".0" : Str)
  gx : ∀ q ∈ sc.names, q.2 ≠ .globalExplicit
theorem scOk_of {ns : Ns} {xs : List Str} {sc : Scope} (h1 : scOk ns sc = true) (h2 : cmOk xs sc = true) : ScOk ns xs sc := by
  refine ob_A (an h1) fun h1 a4 => ?_
  refine ob_A (an h1) fun h1 a3 => ?_
  refine ob_A (an h1) fun h1 a2 => ?_
  refine ob_A (an h1) fun h1 z_ => ?_
  refine ob_A (an h1) fun a1 z_ => ?_
  refine ob_A (an h2) fun h2 b3 => ?_
  refine ob_A (an h2) fun b1 b2 => ?_
  refine ⟨eq_of_beq a1, of_decide_eq_true a2, fun q hq e => ?_, fun x hx => eq_of_beq (List.all_eq_true.mp b1 x hx), fun q hq => ?_, fun q hq e => ?_, fun q hq e => ?_⟩
  · have := List.all_eq_true.mp a3 q hq
    simp only [Bool.or_eq_true, e, bne_self_eq_false, Bool.false_eq_true, false_or] at this
    rcases this with h | h
    · exact .inl (eq_of_beq h)
    · exact .inr (eq_of_beq h)
  · have := List.all_eq_true.mp b2 q hq
    simpa using this
  · have := List.all_eq_true.mp b3 q hq
    simp only [Bool.or_eq_true, e, bne_self_eq_false, Bool.false_eq_true, false_or] at this
    rcases this with h | h
    · exact .inl (List.contains_iff_mem.mp h)
    · exact .inr (eq_of_beq h)
  · have := List.all_eq_true.mp a4 q hq
    rw [e] at this
    exact absurd this Bool.false_ne_true
theorem nodup_lookup {names : List (Str × NameKind)} (h : (names.map (·.1)).Nodup) : ∀ q ∈ names, names.lookup q.1 = some q.2 := by
  induction names with
  | nil => intro q hq; cases hq
  | cons p r ih =>
    intro q hq
    rw [List.map_cons, List.nodup_cons] at h
    obtain ⟨m, k⟩ := p
    rcases List.mem_cons.mp hq with rfl | hq
    · simp
    · rw [List.lookup_cons]
      have : (q.1 == m) = false := by
        cases hb : q.1 == m with
        | false => rfl
        | true => exact absurd (List.mem_map.mpr ⟨q, hq, eq_of_beq hb⟩) h.1
      rw [this]
      exact ih h.2 q hq
theorem lookup_setL {α : Type} (x y : String) (v : α) : ∀ l : List (String × α), (setL x v l).lookup y = if y = x then some v else l.lookup y
  | [] => by
    by_cases h : y = x
    · rw [if_pos h, h]; simp [setL]
    · rw [if_neg h]
      have : (y == x) = false := by simpa using h
      simp [setL, List.lookup_cons, this]
  | (z, u) :: r => by
    have ih := lookup_setL x y v r
    unfold setL
    by_cases hz : z = x
    · rw [if_pos hz]
      by_cases h : y = x
      · rw [if_pos h, h]; simp
      · rw [if_neg h]
        have e : (y == x) = false := by simpa using h
        rw [List.lookup_cons, List.lookup_cons, hz, e]
    · rw [if_neg hz, List.lookup_cons, List.lookup_cons, ih]
      by_cases h : y = x
      · have e : (y == z) = false := by rw [h]; simpa using fun q => hz q.symm
        rw [if_pos h, if_pos h, e]
      · rw [if_neg h, if_neg h]
theorem lookup_delL (x y : String) : ∀ l : Loc, (delL x l).lookup y = if y = x then none else l.lookup y
  | [] => by simp [delL]
  | (z, u) :: r => by
    have ih := lookup_delL x y r
    unfold delL at ih ⊢
    rw [List.filter_cons]
    by_cases hz : z = x
    · have e : ((z, u).1 != x) = false := by simpa using hz
      rw [e, if_neg Bool.false_ne_true, ih, List.lookup_cons]
      by_cases h : y = x
      · rw [if_pos h, if_pos h]
      · have e2 : (y == z) = false := by rw [hz]; simpa using h
        rw [if_neg h, if_neg h, e2]
    · have e : ((z, u).1 != x) = true := by simpa using hz
      rw [e, if_pos rfl, List.lookup_cons, List.lookup_cons, ih]
      by_cases h : y = x
      · have e2 : (y == z) = false := by rw [h]; simpa using fun q => hz q.symm
        rw [if_pos h, if_pos h, e2]
      · rw [if_neg h, if_neg h]
structure Nz (F : Fm) (Y : List Addr) (σ σ' : Sg) : Prop where
  car : Carry σ σ'
  hx : Hx σ.H σ'.H
  new : ∀ a ∈ σ'.own, a ∈ σ.own ∨ σ.h.get? a = none ∨ a ∈ Y
  liv : ∀ a o, a ∉ σ.own → a ∉ Y → σ.h.get? a = some o → ∃ o', σ'.h.get? a = some o'
  frm : ∀ a o, a ∉ σ.own → a ≠ F.L → a ∉ Y → σ.h.get? a = some o → σ'.h.get? a = some o
section
variable {C : Cx} {F : Fm} {m : Str → Option Value} {Y Z : List Addr} {σ σ' σ₁ σ₂ σ₀ : Sg} {I : Addr} {o : Obj} {s' : Shared}
theorem Nx.z (x : Nx (NL F) σ σ') : Nz F Y σ σ' := ⟨x.carry, x.hx, fun a h => (x.new a h).imp id .inl, fun a o h z_ g => x.liv a o h g, fun a o h hL z_ g => x.frm a o h (fun q => absurd q hL) g⟩
theorem Nz.refl (σ : Sg) : Nz F Y σ σ := (Nx.refl σ).z
theorem Nz.off (x : Nz F Y σ σ') {a : Addr} {o : Obj} (h : a ∉ σ.own) (hy : a ∉ Y) (g : σ.h.get? a = some o) : a ∉ σ'.own := fun q => by
  rcases x.new a q with q | q | q
  · exact h q
  · rw [g] at q; cases q
  · exact hy q
theorem Nz.trans (x : Nz F Y σ σ₁) (y : Nz F Y σ₁ σ₂) : Nz F Y σ σ₂ where
  car := x.car.trans y.car
  hx := x.hx.trans y.hx
  new a h := by
    rcases y.new a h with h | h | h
    · exact x.new a h
    · by_cases ha : a ∈ σ.own
      · exact .inl ha
      · by_cases hy : a ∈ Y
        · exact .inr (.inr hy)
        · refine .inr (.inl ?_)
          cases g : σ.h.get? a with
          | none => rfl
          | some o => refine ob_E (x.liv a o ha hy g) fun o' g' => ?_; rw [g'] at h; cases h
    · exact .inr (.inr h)
  liv a o h hy g := let ⟨o', g'⟩ := x.liv a o h hy g; y.liv a o' (x.off h hy g) hy g'
  frm a o h hL hy g := y.frm a o (x.off h hy g) hL hy (x.frm a o h hL hy g)
theorem Nz.more (x : Nz F Y σ σ') (h : ∀ a ∈ Y, a ∈ Z) : Nz F Z σ σ' := ⟨x.car, x.hx, fun a q => (x.new a q).imp id fun q => q.imp id (h a), fun a o q hy g => x.liv a o q (fun z => hy (h a z)) g, fun a o q hL hy g => x.frm a o q hL (fun z => hy (h a z)) g⟩
theorem Nz.tick (x : Nz F Y σ₀ σ) (hI : I ∈ Y ∨ σ₀.h.get? I = none) (T : Turned C F m σ I s') : Nz F Y σ₀ (σ.at s') := by
  have ne : ∀ a o, a ∉ Y → σ₀.h.get? a = some o → a ≠ I := fun a o hy g q => by
    rcases hI with h | h
    · exact hy (q ▸ h)
    · rw [q, h] at g; cases g
  exact ⟨x.car.trans T.c, x.hx, x.new, fun a o h hy g => let ⟨o', g'⟩ := x.liv a o h hy g; ⟨o', T.but a o' (ne a o hy g) g'⟩, fun a o h hL hy g => T.but a o (ne a o hy g) (x.frm a o h hL hy g)⟩
theorem Held.z (h : Held F σ I o) (x : Nz F Y σ σ') (hI : I ∉ Y) : Held F σ' I o := ⟨⟨x.off h.std.1 hI h.std.2.2, h.std.2.1, x.frm I o h.std.1 h.std.2.1 hI h.std.2.2⟩, h.low⟩
theorem Held.tick {J : Addr} (h : Held F σ I o) (T : Turned C F m σ J s') (hne : I ≠ J) : Held F (σ.at s') I o := ⟨⟨h.std.1, h.std.2.1, T.but I o hne h.std.2.2⟩, h.low⟩
theorem Nx.fresh (x : Nx (NL F) σ σ') (r : Rel C F m σ') {a : Addr} (h : σ'.h.get? a = none) : σ.h.get? a = none := by
  cases g : σ.h.get? a with
  | none => rfl
  | some o =>
    by_cases ha : a ∈ σ.own
    · refine ob_EA (List.mem_flatten.mp ha) fun b hb hm => ?_
      refine ob_E (List.mem_iff_getElem?.mp hb) fun i hi => ?_
      refine ob_EA (r.live (mem_own (x.ext i b hi) hm)) fun y g' z_ => ?_
      rw [g'] at h; cases h
    · refine ob_E (x.liv a o ha g) fun o' g' => ?_
      rw [g'] at h; cases h
structure CS (C : Cx) (F : Fm) (m : Str → Option Value) (σ : Sg) (K D : Addr) (σ' : Sg) (mC : Str → Option Value) (acc : List RV) : Prop where
  r : Rel C F m σ'
  n : Nx (NL F) σ σ'
  fK : σ.h.get? K = none
  fD : σ.h.get? D = none
  ne : K ≠ D
  hC : ∃ oC es ep, Held F σ' K oC ∧ oC.data = .dict es ep ∧ StrKeys es ∧ ∀ name, nsFind es name = mC name
  hD : ∃ ws kk, Held F σ' D (lstO ws kk) ∧ VsRel C σ' acc ws
  la : acc.length < 4000
variable {K D : Addr} {mC : Str → Option Value} {acc : List RV}
theorem CS.ns (c : CS C F m σ K D σ' mC acc) : σ'.h.Ns K mC := let ⟨oC, es, ep, h, d, k, f⟩ := c.hC; ⟨oC, es, ep, h.std.2.2, d, k, f⟩
theorem CS.step (c : CS C F m σ K D σ₁ mC acc) (r : Rel C F m σ₂) (x : Nx (NL F) σ₁ σ₂) : CS C F m σ K D σ₂ mC acc :=
  ⟨r, c.n.trans x, c.fK, c.fD, c.ne, let ⟨oC, es, ep, h, z⟩ := c.hC; ⟨oC, es, ep, h.step x, z⟩, let ⟨ws, kk, h, z⟩ := c.hD; ⟨ws, kk, h.step x, z.mono x.carry⟩, c.la⟩
theorem CS.tick (c : CS C F m σ K D σ₁ mC acc) (T : Turned C F m σ₁ I s') (hI : σ.h.get? I = none) (h1 : K ≠ I) (h2 : D ≠ I) : CS C F m σ K D (σ₁.at s') mC acc :=
  ⟨T.r, c.n.tick hI T.but T.sm, c.fK, c.fD, c.ne, let ⟨oC, es, ep, h, z⟩ := c.hC; ⟨oC, es, ep, h.tick T h1, z⟩, let ⟨ws, kk, h, z⟩ := c.hD; ⟨ws, kk, h.tick T h2, z.mono T.c⟩, c.la⟩
theorem CS.store (c : CS C F m σ K D σ₁ mC acc) {h' : Heap} {k : Nat} {mC' : Str → Option Value} (hn : h'.Ns K mC') (hs : Heap.SameBut K σ₁.h h') :
    CS C F m σ K D (σ₁.at { σ₁.s with heap := h', toks := k }) mC' acc ∧ Turned C F m σ₁ K { σ₁.s with heap := h', toks := k } := by
  refine ob_EEEAA (c.hC) fun oC es ep h d z_ => ?_
  have T : Turned C F m σ₁ K { σ₁.s with heap := h', toks := k } := h.turn c.r (dict_nf d) fun b x hb e => hs.extBut b x hb e
  (revert hn; refine ob_EEEAAAr fun oC' es' ep' g' d' k' f' => ?_)
  refine ob_EEA (c.hD) fun ws kk hD z => ?_
  exact ⟨⟨T.r, c.n.tick c.fK T.but T.sm, c.fK, c.fD, c.ne, ⟨oC', es', ep', h.now g', d', k', f'⟩, ⟨ws, kk, hD.tick T c.ne.symm, z.mono T.c⟩, c.la⟩, T⟩
theorem CS.app (c : CS C F m σ K D σ₁ mC acc) {v : RV} {u : Value} (hv : VRel C σ₁ v u) {Q : Value → Shared → Prop} {E : Value → Shared → Prop} (hl : (acc ++ [v]).length < 4000)
    (h : ∀ w s', CS C F m σ K D (σ₁.at s') mC (acc ++ [v]) → Turned C F m σ₁ D s' → Q w s') : wpAny C.M F.A (call (.builtin "list.append") [.ref D, u]) Q E σ₁.s := by
  refine ob_EEA (c.hD) fun ws kk hD z => ?_
  have l5 := z.length
  have hsz : ws.toArray.size ≤ sizeLine := by rw [sizeLine_eq, List.size_toArray, ← l5]; have := c.la; omega
  refine wpAny_list_append_plain (hsz := hsz) ⟨kk, hD.std.2.2⟩ fun h₆ hl₆ hs₆ => ?_
  (revert hl₆; refine ob_Er fun k₆ g₆ => ?_)
  have g₆' : h₆.get? D = some (lstO (ws ++ [u]) k₆) := by rw [g₆]; simp
  have T : Turned C F m σ₁ D { σ₁.s with heap := h₆, toks := σ₁.s.toks } := hD.turn c.r (lst_idle _ _).nf fun b x hb e => hs₆.extBut b x hb e
  refine ob_EEEA (c.hC) fun oC es ep hC d => ?_
  exact h _ _ ⟨T.r, c.n.tick c.fD T.but T.sm, c.fK, c.fD, c.ne, ⟨oC, es, ep, hC.tick T c.ne, d⟩, ⟨ws ++ [u], k₆, hD.now g₆', (z.mono T.c).append (.cons (hv.mono T.c) .nil)⟩, hl⟩ T
theorem comp_now {V : Vm} {xs : List Str} {sc : Scope} {cl : List (Str × Addr)} (N : Now C F V m σ) (S : ScOk V.ns xs sc) (hcl : ∀ y, sc.names.lookup y = some .free → cl.lookup y = V.env.cells.lookup y) (c : CS C F m σ K D σ' mC acc) {loc' : Loc}
    (hl : ∀ y v, loc'.lookup y = some v → (Str.ofString y ∈ xs → ∃ u, mC (Str.ofString y) = some u ∧ VRel C σ' v u) ∧ (Str.ofString y ∉ xs → V.loc.lookup y = some v)) :
    Now C F ⟨compEnvC sc cl K V.env, sc.names, mC, loc'⟩ m σ' := by
  have kk : ∀ y, (compEnvC sc cl K V.env).kindOf y = (sc.names.lookup y).map fun k => if (k == NameKind.free && V.env.scope.kind == .function && V.env.kindOf y == some .cell) then NameKind.cell else k := fun y => lookup_relabel y sc.names
  refine ob_EEEAAA (c.hC) fun oC es ep hC d k f => ?_
  refine ⟨N.a, ⟨S.knd, N.e.gl, N.e.bl, N.e.frm, fun y k hk z_ => ?_, fun y hy => ?_, fun t ht => absurd rfl (S.gx (tabName t, .globalExplicit) (lookup_mem ht)), .inr ⟨oC, es, ep, hC.std, d, k, f⟩⟩, fun y vv e => ?_, c.r⟩
  · show (compEnvC sc cl K V.env).kindOf y = _ ∨ _
    have hk : sc.names.lookup y = some k := hk
    rw [kk, hk, Option.map_some]
    by_cases hc : (k == NameKind.free && V.env.scope.kind == .function && V.env.kindOf y == some .cell) = true
    · rw [if_pos hc]
      exact .inr ⟨eq_of_beq (an (an hc).1).1, rfl⟩
    · rw [if_neg hc]; exact .inl rfl
  · have hy : sc.names.lookup y = some .cell ∨ sc.names.lookup y = some .free := hy
    rcases hy with hy | hy
    · exact absurd rfl (S.cell (y, .cell) (lookup_mem hy))
    · refine ob_E (N.e.cel y (S.free (y, .free) (lookup_mem hy) rfl)) fun c hc => ?_
      exact ⟨c, by show cl.lookup y = _; rw [hcl y hy]; exact hc⟩
  · have e : loc'.lookup y = some vv := e
    refine ob_A (hl y vv e) fun l1 l2 => ?_
    refine ⟨fun h hd => ?_, fun h => ?_⟩
    · have h : (compEnvC sc cl K V.env).kindOf (Str.ofString y) = some .local := h
      rw [kk] at h
      cases hn : sc.names.lookup (Str.ofString y) with
      | none => rw [hn] at h; cases h
      | some k =>
        rw [hn, Option.map_some, Option.some.injEq] at h
        have hk : k = .local := by
          by_cases hc : (k == NameKind.free && V.env.scope.kind == .function && V.env.kindOf (Str.ofString y) == some .cell) = true
          · rw [if_pos hc] at h; cases h
          · rw [if_neg hc] at h; exact h
        subst hk
        rcases S.loc _ (lookup_mem hn) rfl with h1 | h1
        · exact l1 h1
        · exact absurd h1 hd
    · have h : (compEnvC sc cl K V.env).kindOf (Str.ofString y) = some .cell ∨ (compEnvC sc cl K V.env).kindOf (Str.ofString y) = some .free := h
      have hf : sc.names.lookup (Str.ofString y) = some .free := by
        rw [kk] at h
        cases hn : sc.names.lookup (Str.ofString y) with
        | none => rw [hn] at h; rcases h with h | h <;> cases h
        | some k =>
          rw [hn, Option.map_some] at h
          cases k with
          | free => rfl
          | cell => exact absurd rfl (S.cell _ (lookup_mem hn))
          | «local» => simp at h
          | globalExplicit => simp at h
          | globalImplicit => simp at h
      have hns := S.free _ (lookup_mem hf) rfl
      have hke : V.env.kindOf (Str.ofString y) = some .cell ∨ V.env.kindOf (Str.ofString y) = some .free := by
        rcases hns with hns | hns
        · rcases N.e.kin _ _ hns (fun e => by cases e) with q | ⟨q, _⟩
          · exact .inl q
          · cases q
        · rcases N.e.kin _ _ hns (fun e => by cases e) with q | ⟨_, q⟩
          · exact .inr q
          · exact .inl q
      have hx : Str.ofString y ∉ xs := fun hx => by
        have := S.hx _ hx
        rw [hf] at this; cases this
      refine ob_EEEAAA (((N.l.step c.n) y vv (l2 hx)).2 hke) fun c' o' u' h1 h2 h3 h4 => ?_
      exact ⟨c', o', u', by show cl.lookup _ = _; rw [hcl _ hf]; exact h1, h2, h3, h4⟩
end
section
variable {C : Cx} {F : Fm} {V : Vm} {m : Str → Option Value} {Y : List Addr} {σ σ' σb σ₁ σ₂ : Sg} {I K D : Addr} {o : Obj} {s' : Shared} {E : Value → Shared → Prop} {src : Src} {k : Nat} {mC : Str → Option Value} {acc : List RV}
theorem push_held (r : Rel C F m σ) (ho : o.isFreed = false) {t : Nat} : Rel C F m (σ.at { σ.s with heap := σ.h.push o, toks := t }) ∧ Nx (NL F) σ (σ.at { σ.s with heap := σ.h.push o, toks := t }) ∧ Held F (σ.at { σ.s with heap := σ.h.push o, toks := t }) σ.h.objs.size o ∧ σ.h.get? σ.h.objs.size = none := by
  have hk : Keep σ.h ({ σ.s with heap := σ.h.push o, toks := t } : Shared).heap := push_keep o
  have z := r.off (Nat.le_refl _)
  exact ⟨r.keep hk, Nx.keep hk ⟨rfl, rfl, rfl⟩, ⟨⟨fun q => Nat.lt_irrefl _ (r.lt q), z.2, Heap.get?_push_size _ ho⟩, z.1⟩, up_none (Nat.le_refl _)⟩
set_option tactic.hygienic true in
theorem iter_ok (a : Act C F) (r : Rel C F m σ) {v : RV} {u : Value} (hv : VRel C σ v u) {Qs : Src → Prop} (hw : srcwp σ.H v Qs) {Q : Value → Shared → Prop}
    (h : ∀ src o, Qs src → o.isFreed = false → ItO C σ src 0 o → Q (.ref σ.h.objs.size) { σ.s with heap := σ.h.push o }) : wpAny C.M F.A (pyIter u) Q E σ.s := by
  cases v <;> first | exact absurd hw id | skip
  case tup vs =>
    (refine ob_EEEAA (hv.tup_at (a.inK r)) fun b ws n o1_ g R => ?_; subst o1_)
    exact wpAny_pyIter_tuple (items := ws.toArray) ⟨_, g, rfl, n, rfl⟩ (h _ _ hw rfl (.tup hv rfl rfl))
  case rng x y c =>
    (refine ob_A ((show (c = 1 ∧ Builtin.Range.small x y c = true) ∧ Qs (.items (rngL x y c)) from hw)) fun o1_ hw => ?_; revert o1_; refine ob_Ar fun o2_ hs => ?_; subst o2_)
    (refine ob_EEEEA (hv.rng_inv) fun b t v z o1_ g => ?_; subst o1_)
    refine wpAny_pyIter_range g.2 hs (h _ _ hw rfl ?_)
    rw [rangeSize_one]
    refine .rng ?_
    simp
  case ref i =>
    refine ob_EA (opt_of (show optwp (σ.H[i]?) (fun o => srcOwp i o Qs) from hw)) fun ob ho hw => ?_
    (refine ob_EA (hv.ref_inv) fun b o1_ hb => ?_; subst o1_)
    cases ob with
    | list us =>
      refine ob_EEAA (r.listAt ho hb) fun ws n R z_ g => ?_
      exact wpAny_pyIter_list (isList_of g) (h _ _ hw rfl (.list hb rfl rfl))
    | dict es n => exact absurd hw id
    | set es n t =>
      refine ob_EAAA (r.setAt ho hb) fun vs g R1 f z_ => ?_
      (refine ob_A ((show (t.plain = true ∧ SetTable.rising t.place = true) ∧ ∀ l, l.Perm (es.map (·.2)) → Qs (.kept i n l) from hw)) fun o1_ hw => ?_; revert o1_; refine ob_Ar fun hp hr => ?_)
      refine iter_set g f hp (h _ _ (hw _ ((walk_perm (P := C.P) (a := b) (ep := n) (vs := es)).map _)) rfl (.set (j := 0) (t := t) hb rfl ?_ ⟨_, n, ho, rfl, Nat.le_refl _, fun z_ => rfl⟩ hp hr ⟨fun z_ => rfl, fun z_ => rfl⟩ (Nat.zero_le _)))
      rw [R1.len]
    | inst c fs => exact absurd hw id
    | tab b => exact absurd hw id
theorem self_ok (g : σ.h.get? I = some o) (it : ItO C σ src k o) {Q : Value → Shared → Prop} {A : Around} (h : Q (.ref I) σ.s) : wpAny C.M A (pyIter (.ref I)) Q E σ.s := by
  cases it with
  | list a b d => exact wpAny_pyIter_listiter ⟨o, g, b, d⟩ h
  | tup a b d => exact wpAny_pyIter_tupleiter ⟨o, g, b, d⟩ h
  | rng e => subst e; exact wpAny_pyIter_rangeiter g h
  | set a b d s => exact iter_setit g b h
theorem foldless {ns : Ns} {e : Expr} {r : RE} {env : Env} (h : mtE ns e r = true) (x : Value) : foldedSetIterable e env x = pure x := by
  refine kinds (Z := fun e => foldedSetIterable e env x = pure x) h ?_ ?_ ?_ ?_ ?_ ?_ ?_ ?_ ?_ ?_ ?_ ?_ ?_ ?_ <;> intros <;> rfl
theorem turn_ok (a : Act C F) {turn : RV → List RV → RH → PL → Prop} {n : Nat} {oI : Obj} {Qf : PL} {y : String} {px : Pos} {env : Env} (c : CS C F m σ K D σ₁ mC acc) (hI : Held F σ₁ I oI) (it : ItO C σ₁ src k oI) (fI : σ.h.get? I = none) (h1 : K ≠ I) (h2 : D ≠ I)
    (hk : env.kindOf (Str.ofString y) = some .local) (hl : env.locals = K) (hf : env.scope.kind = .function) (z : Nz F Y σb σ₁) (hKY : K ∈ Y) (hIY : I ∈ Y ∨ σb.h.get? I = none) (hw : wpTurns turn src n k acc σ₁.H Qf) {R : Result → Shared → Prop} {B : Shared → Prop}
    (end_ : ∀ s', Qf acc σ₁.H → CS C F m σ K D (σ₁.at s') mC acc → Nz F Y σb (σ₁.at s') → R (.ok .next) s')
    (body : ∀ n' v u oI' s', n = n' + 1 → CS C F m σ K D (σ₁.at s') (fun z => if z = Str.ofString y then some u else mC z) acc → Held F (σ₁.at s') I oI' → ItO C (σ₁.at s') src (k + 1) oI' → VRel C (σ₁.at s') v u → Nz F Y σb (σ₁.at s') →
      turn v acc σ₁.H (fun acc' H' => acc'.length < 4000 ∧ wpTurns turn src n' (k + 1) acc' H' Qf) → B s') :
    wpAny C.M F.A (pyNext (.ref I)) (fun r s₁ => match r with
      | none => R (.ok .next) s₁
      | some v => wpAny C.M F.A (assign (.Name (Str.ofString y) px) env v) (fun z_ => B) E s₁) E σ₁.s := by
  cases n with
  | zero => exact hw.elim
  | succ n =>
    obtain ⟨x, hx, hw⟩ := opt_of (show optwp (peek src σ₁.H k) (fun o => match o with
      | none => Qf acc σ₁.H
      | some v => turn v acc σ₁.H fun acc' H' => acc'.length < 4000 ∧ wpTurns turn src n (k + 1) acc' H' Qf) from hw)
    refine next_ok a c.r hI it hx (fun v u o' s' e hv hI' it' T => ?_) fun s' e T => ?_
    · subst e
      have c₂ := c.tick T fI h1 h2
      have z₂ := z.tick hIY T
      subst hl
      refine wpAny_assign_Name (wpAny_storeName_local hk c₂.ns (fun h₃ hn₃ hs₃ => ?_) (by rw [hf]; rfl))
      refine ob_A (c₂.store (k := s'.toks + 1) hn₃ hs₃) fun c₃ T₃ => ?_
      exact body n v u o' _ rfl c₃ (hI'.tick T₃ h1.symm) (it'.mono T₃.c (Hx.refl _)) (hv.mono T₃.c) (z₂.tick (.inl hKY) T₃) hw
    · subst e
      exact end_ s' hw (c.tick T fI h1 h2) (z.tick hIY T)
section
variable {U : UTy} {n : Nat} {elt : Expr} {elt' : RE} {ifs : List Expr} {ifs' : List RE}
theorem emit_ok {V' : Vm} (hE : Ok C U n elt') (hIf : Oks C U n ifs') (hn : F.n = n) (hme : mtE V'.ns elt elt' = true) (hmi : mtEs V'.ns ifs ifs' = true) (c : CS C F m σ K D σ₁ mC acc) (N' : Now C F V' m σ₁) {kq : PL} (hk : ∀ acc' H, kq acc' H → acc'.length < 4000)
    (hw : wpIfs C.G U ifs' V'.loc σ₁.H fun ok H'' => if ok then wpE C.G U elt' V'.loc H'' fun r H₃ => kq (acc ++ [r]) H₃ else kq acc H'') {P : Shared → Prop}
    (hP : ∀ acc' σ₂, kq acc' σ₂.H → CS C F m σ K D σ₂ mC acc' → Nz F [D] σ₁ σ₂ → P σ₂.s) :
    wpAny C.M F.A (forIn ifs true fun c r => if r = true then do let ok ← isTrue c V'.env (eval c V'.env); pure (ForInStep.yield ok) else pure (ForInStep.yield r)) (fun ok s₃ =>
      if ok = true then wpAny C.M F.A (eval elt V'.env) (fun x s₄ => wpAny C.M F.A (call (.builtin "list.append") [.ref D, x]) (fun z_ s₅ => P s₅) E s₄) E s₃ else P s₃) E σ₁.s := by
  refine ifs_ok hIf hn hmi N' hw _ _ fun ok σ₂ q r₂ n₂ => ?_
  cases ok with
  | false =>
    rw [if_neg Bool.false_ne_true]
    exact hP acc σ₂ q (c.step r₂ n₂) n₂.z
  | true =>
    rw [if_pos rfl]
    refine (hE elt).1 hn hme (N'.step r₂ n₂) q _ _ fun u σ₃ q₃ r₃ n₃ => ?_
    (revert q₃; refine ob_EAr fun v q₃ hv => ?_)
    have c₃ := (c.step r₂ n₂).step r₃ n₃
    refine c₃.app hv (hk _ _ q₃) fun w s' c₄ T => ?_
    exact hP (acc ++ [v]) (σ₃.at s') q₃ c₄ ((n₂.trans n₃).z.tick (.inl (.head _)) T)
noncomputable abbrev turnIn (C : Cx) (U : UTy) (ifs' : List RE) (elt' : RE) (loc' : RV → Loc) : RV → List RV → RH → PL → Prop := fun v acc H' kk => wpIfs C.G U ifs' (loc' v) H' fun ok H'' => if ok then wpE C.G U elt' (loc' v) H'' fun r H₃ => kk (acc ++ [r]) H₃ else kk acc H''
theorem loop_in {cl : List (Str × Addr)} {sc : Scope} {xs : List Str} {y : String} {px : Pos} {code : Code} {loc' : RV → Loc} {pre : (Str → Option Value) → Prop} (hE : Ok C U n elt') (hIf : Oks C U n ifs') (hn : F.n = n) (N : Now C F V m σ) (S : ScOk V.ns xs sc)
    (hcl : ∀ y, sc.names.lookup y = some .free → cl.lookup y = V.env.cells.lookup y) (hy : Str.ofString y ∈ xs) (hme : mtE sc.names elt elt' = true) (hmi : mtEs sc.names ifs ifs' = true) {R : Result → Shared → Prop}
    (raw : ∀ (Inv : Nat → Shared → Prop), (∀ n s, Inv n s → ∀ E, wpAny C.M F.A (pyNext (.ref I)) (fun r s₁ => match r with
      | none => R (.ok .next) s₁
      | some v => wpAny C.M F.A (assign (.Name (Str.ofString y) px) (compEnvC sc cl K V.env) v) (fun z_ s₂ => wpAny C.M F.A (forIn ifs true fun c r => if r = true then do let ok ← isTrue c (compEnvC sc cl K V.env) (eval c (compEnvC sc cl K V.env)); pure (ForInStep.yield ok) else pure (ForInStep.yield r)) (fun ok s₃ =>
          if ok = true then wpAny C.M F.A (eval elt (compEnvC sc cl K V.env)) (fun x s₄ => wpAny C.M F.A (call (.builtin "list.append") [.ref D, x]) (fun z_ s₅ => ∃ m, m < n ∧ Inv m s₅) E s₄) E s₃ else ∃ m, m < n ∧ Inv m s₃) E s₂) E s₁) E s) → ∀ n s, Inv n s → codeAny C.M F.A code R s)
    (hloc : ∀ {σ₂ : Sg} {mC : Str → Option Value} {v : RV} {u : Value}, Carry σb σ₂ → pre mC → VRel C σ₂ v u → ∀ z w, (loc' v).lookup z = some w → (Str.ofString z ∈ xs → ∃ u', (if Str.ofString z = Str.ofString y then some u else mC (Str.ofString z)) = some u' ∧ VRel C σ₂ w u') ∧ (Str.ofString z ∉ xs → V.loc.lookup z = some w))
    (hpre : ∀ mC u, pre mC → pre (fun z => if z = Str.ofString y then some u else mC z))
    {oI : Obj} {Qf : PL} {nn : Nat} (c : CS C F m σ K D σ₁ mC acc) (p : pre mC) (hI : Held F σ₁ I oI) (it : ItO C σ₁ src k oI) (fI : σ.h.get? I = none) (h1 : K ≠ I) (h2 : D ≠ I) (z : Nz F Y σb σ₁) (hKY : K ∈ Y) (hDY : D ∈ Y) (hIY : I ∈ Y ∨ σb.h.get? I = none)
    (hw : wpTurns (turnIn C U ifs' elt' loc') src nn k acc σ₁.H Qf)
    (hR : ∀ acc' σ₂ mC', Qf acc' σ₂.H → CS C F m σ K D σ₂ mC' acc' → pre mC' → Nz F Y σb σ₂ → R (.ok .next) σ₂.s) : codeAny C.M F.A code R σ₁.s := by
  have hkx : (compEnvC sc cl K V.env).kindOf (Str.ofString y) = some .local := lookup_relabel_local (S.hx _ hy)
  have hkf : (compEnvC sc cl K V.env).scope.kind = .function := S.knd
  refine raw (fun nn s => ∃ k acc σ₁ oI mC, σ₁.s = s ∧ CS C F m σ K D σ₁ mC acc ∧ pre mC ∧ Held F σ₁ I oI ∧ ItO C σ₁ src k oI ∧ Nz F Y σb σ₁ ∧
    wpTurns (turnIn C U ifs' elt' loc') src nn k acc σ₁.H Qf) ?_ nn _ ⟨k, acc, σ₁, oI, mC, rfl, c, p, hI, it, z, hw⟩
  rintro nn s ⟨k, acc, σ₁, oI, mC, rfl, c, p, hI, it, z, hw⟩ E
  refine turn_ok N.a c hI it fI h1 h2 hkx rfl hkf z hKY hIY hw (fun s' q c' z' => hR acc (σ₁.at s') mC q c' p z') fun n' v u oI' s' e c' hI' it' hv z' hw' => ?_
  subst e
  refine emit_ok (V' := ⟨compEnvC sc cl K V.env, sc.names, _, loc' v⟩) hE hIf hn hme hmi c' (comp_now N S hcl c' (hloc z'.car p hv)) (kq := fun acc' H' => acc'.length < 4000 ∧ wpTurns (turnIn C U ifs' elt' loc') src n' (k + 1) acc' H' Qf) (fun acc' H q => q.1) hw' fun acc' σ₂ q c₂ z₂ => ?_
  refine ⟨n', Nat.lt_succ_self _, k + 1, acc', σ₂, oI', _, rfl, c₂, hpre _ _ p, hI'.z z₂ ?_, it'.mono z₂.car z₂.hx, z'.trans (z₂.more ?_), q.2⟩
  · simpa using h2.symm
  · simpa using hDY
end
end
section
variable {prog : Program} {w : World} {A : Around} {E : Value → Shared → Prop} {R : Result → Shared → Prop} {s : Shared} {elt t1 i1 t2 i2 : Expr} {ifs : List Expr} {sc : Scope} {pos : Pos} {it acc : Value} {env : Env}
end
section
variable {C : Cx} {F : Fm} {V : Vm} {m : Str → Option Value} {σ σ₁ σ₂ : Sg} {I K D : Addr} {E : Value → Shared → Prop} {mC : Str → Option Value} {acc : List RV} {U : UTy} {n : Nat}
theorem CS.adopt (c : CS C F m σ K D σ₂ mC acc) {h' : Heap} (hs : Heap.SameBut K σ₂.h h') {Q : PV} (q : Q (.ref σ₂.H.length) (σ₂.H ++ [.list acc])) {P : Value → Shared → Prop} (hP : ∀ x σ', EP C Q x σ' → Rel C F m σ' → Nx (NL F) σ σ' → P x σ'.s) : P (.ref D) { σ₂.s with heap := h' } := by
  refine ob_EEEAA (c.hC) fun oC es ep hC d z_ => ?_
  refine ob_EEA (c.hD) fun ws kk hD z => ?_
  have T : Turned C F m σ₂ K { σ₂.s with heap := h', toks := σ₂.s.toks } := hC.turn c.r (dict_nf d) fun b x hb e => hs.extBut b x hb e
  have hD' := hD.tick T c.ne.symm
  have n' : Nx (NL F) σ (σ₂.at { σ₂.s with heap := h', toks := σ₂.s.toks }) := c.n.tick c.fK T.but T.sm
  have hb : ∀ a ∈ [D], ∀ o', fixd o' → ¬ h'.get? a = some o' := fun a ha o' hf g' => by
    rw [List.mem_singleton] at ha
    have g : h'.get? D = some (lstO ws kk) := hD'.std.2.2
    rw [ha, g] at g'
    cases g'
    exact (lst_idle ws kk).nf hf
  have c₂ : Carry (σ₂.at { σ₂.s with heap := h', toks := σ₂.s.toks }) ((σ₂.at { σ₂.s with heap := h', toks := σ₂.s.toks }).new [D] (.list acc) { σ₂.s with heap := h', toks := σ₂.s.toks }) := new_carry (fun z_ z_ g => g) hb
  refine hP _ ((σ₂.at { σ₂.s with heap := h', toks := σ₂.s.toks }).new [D] (.list acc) { σ₂.s with heap := h', toks := σ₂.s.toks }) ⟨_, q, .ref (adr_new T.r _ _ _)⟩
    (T.r.take (fun z_ z_ g => g) (by simp) (fun a ha => by rw [List.mem_singleton] at ha; rw [ha]; exact hD'.std.1) (fun a ha => by rw [List.mem_singleton] at ha; rw [ha]; exact ⟨hD'.low, hD'.std.2.1⟩) hb (.list hD'.std.2.2 ((z.mono T.c).mono c₂))) ?_
  refine ⟨fun i b e => ext_new [D] _ (n'.ext i b e), fun a ha => ?_, n'.liv, n'.frm, n'.sm, n'.hx.trans (Hx.snoc _ _)⟩
  rcases own_new.mp ha with ha | ha
  · exact n'.new a ha
  · rw [List.mem_singleton] at ha
    rw [ha]; exact .inr c.fD
theorem comp_core {sc : Scope} {xs : List Str} {cl : List (Str × Addr)} {elt : Expr} {t1 i1 : Expr} {f1 : List Expr} {gs : List Comprehension} {pos : Pos} {v : RV} {u : Value} {Qs : Src → Prop} {RR : Value → Addr → Result → Shared → Prop}
    (N : Now C F V m σ) (S : ScOk V.ns xs sc) (hv : VRel C σ v u) (hw : srcwp σ.H v Qs)
    (loop : ∀ {K D I oI src σ₁ mC}, Qs src → CS C F m σ K D σ₁ mC [] → σ₁.H = σ.H → Held F σ₁ I oI → ItO C σ₁ src 0 oI → σ.h.get? I = none → K ≠ I → D ≠ I →
      codeAny C.M F.A (.compLoop (.ListComp elt (⟨t1, i1, f1, 0⟩ :: gs) sc pos) 0 (.ref I) (.ref D) (compEnvC sc cl K V.env)) (RR (.ref D) K) σ₁.s) :
    wpAny C.M F.A (pyIter u) (fun itv s₂ => wpAny C.M F.A (newList []) (fun acc s₃ => wpAny C.M F.A (newFunctionEnv sc V.env.globals cl [] V.env.qual none .none (some V.env)) (fun cenv s₄ =>
      codeAny C.M F.A (.compStart (.ListComp elt (⟨t1, i1, f1, 0⟩ :: gs) sc pos) 0 itv acc { cenv with scope := relabel sc V.env }) (RR acc cenv.locals) s₄) E s₃) E s₂) E σ.s := by
  refine iter_ok N.a N.r hv hw fun src oI hq hf it => ?_
  refine ob_AAA (push_held (t := σ.s.toks) N.r hf) fun rI nI hI fI => ?_
  have itI := it.step nI
  generalize hI0 : σ.h.objs.size = I at hI fI
  generalize hσI : σ.at { σ.s with heap := σ.h.push oI, toks := σ.s.toks } = σI at rI nI hI itI
  have eI : ({ σ.s with heap := σ.h.push oI } : Shared) = σI.s := by rw [← hσI]
  have eH : σI.H = σ.H := by rw [← hσI]
  rw [eI]
  refine wpAny_newObj_type (hd := by size_fits) (wpAny_newFunctionEnv S.cell (by intro y hy; simp at hy) (fun h₁ hns₁ hsb₁ => ?_) S.knd)
  refine ob_AAA (push_held (o := lstO [] 0) (t := σI.s.toks) rI rfl) fun rD nD hD fD => ?_
  generalize hD0 : σI.h.objs.size = D at hD fD
  generalize hσD : σI.at { σI.s with heap := σI.h.push (lstO [] 0), toks := σI.s.toks } = σD at rD nD hD
  have eD : (σI.s.heap.push { cls := .type "list", data := .seq #[] 0 } : Heap) = σD.h := by rw [← hσD]
  dsimp only at hns₁ hsb₁ ⊢
  have hns₂ : h₁.Ns σD.h.objs.size (fun x => ([] : List (Str × Value)).reverse.lookup x) := by rw [← eD]; exact hns₁
  have hsb₂ : Heap.SameBut σD.h.objs.size (σD.h.push { cls := .type "dict", data := .dict #[] }) h₁ := by rw [← eD]; exact hsb₁
  refine ob_AAA (push_held (o := { cls := .type "dict", data := .dict #[] }) (t := σD.s.toks) rD rfl) fun rK nK hK fK => ?_
  refine ob_EEEAAA (id hns₂) fun oC es ep gC dC kC fC => ?_
  have T := hK.turn (k := σD.s.toks) rK (dict_nf rfl) fun b x hb e => hsb₂.extBut b x hb e
  have fK' : σ.h.get? σD.h.objs.size = none := (nI.trans nD).fresh rD fK
  have fD' : σ.h.get? D = none := nI.fresh rI fD
  have hKD : σD.h.objs.size ≠ D := fun e => by
    have := hD.std.2.2
    rw [← e, fK] at this; cases this
  have hID := hI.step nD
  have hKI : σD.h.objs.size ≠ I := fun e => by
    have := hID.std.2.2
    rw [← e, fK] at this; cases this
  have hDI : D ≠ I := fun e => by
    have := hI.std.2.2
    rw [← e, fD] at this; cases this
  have eHD : σD.H = σI.H := by rw [← hσD]
  have cs : CS C F m σ σD.h.objs.size D _ _ [] := ⟨T.r, ((nI.trans nD).trans nK).tick fK' T.but T.sm, fK', fD', hKD, ⟨oC, es, ep, hK.now gC, dC, kC, fC⟩, ⟨[], 0, (hD.step nK).tick T hKD.symm, .nil⟩, by simp⟩
  have hI₃ := (hID.step nK).tick T hKI.symm
  have it₃ := ((itI.step nD).step nK).mono T.c (Hx.refl _)
  have lp := loop hq cs (eHD.trans eH) hI₃ it₃ fI hKI hDI
  have eK : (σI.s.heap.push { cls := .type "list", data := .seq #[] } : Heap).objs.size = σD.h.objs.size := by rw [eD]
  rw [eK]
  subst hσD
  exact codeAny_compStart_list lp (self_ok (σ := (_ : Sg)) hI₃.std.2.2 it₃ lp)
end
section
variable {C : Cx} {F : Fm} {V : Vm} {m : Str → Option Value} {σ : Sg} {U : UTy} {n : Nat} {E : Value → Shared → Prop} {elt it i1 i2 : Expr} {elt' it' it2' : RE} {ifs : List Expr} {ifs' : List RE} {x' y' : String} {xp yp pos : Pos} {sc : Scope} {cl : List (Str × Addr)} {v : RV} {u : Value} {Qf : PL}
theorem comp1_ok (h2 : Ok C U n elt') (h3 : Oks C U n ifs') (hn : F.n = n) (N : Now C F V m σ) (S : ScOk V.ns [Str.ofString x'] sc) (hclk : ∀ y, sc.names.lookup y = some .free → cl.lookup y = V.env.cells.lookup y) (hel : mtE sc.names elt elt' = true) (hif : mtEs sc.names ifs ifs' = true) (hv : VRel C σ v u)
    (hw : srcwp σ.H v fun src => ∃ nn, wpTurns (turnIn C U ifs' elt' fun v => setL x' v V.loc) src nn 0 [] σ.H Qf) {RR : Value → Addr → Result → Shared → Prop}
    (hR : ∀ K D acc σ₂ mC, Qf acc σ₂.H → CS C F m σ K D σ₂ mC acc → RR (.ref D) K (.ok .next) σ₂.s) :
    wpAny C.M F.A (pyIter u) (fun itv s₂ => wpAny C.M F.A (newList []) (fun acc s₃ => wpAny C.M F.A (newFunctionEnv sc V.env.globals cl [] V.env.qual none .none (some V.env)) (fun cenv s₄ =>
      codeAny C.M F.A (.compStart (.ListComp elt [⟨.Name (Str.ofString x') xp, it, ifs, 0⟩] sc pos) 0 itv acc { cenv with scope := relabel sc V.env }) (RR acc cenv.locals) s₄) E s₃) E s₂) E σ.s := by
  refine comp_core N S hv hw fun {K D I oI src σ₂ mC} hq c eH hI it fI k1 k2 => ?_
  (revert hq; refine ob_Er fun nn hq => ?_)
  refine loop_in (Y := [I, K, D]) (σb := σ₂) (loc' := fun v => setL x' v V.loc) (pre := fun z_ => True) h2 h3 hn N S hclk (.head _) hel hif (fun Inv turn n s h => codeAny_compLoop_tests Inv (fun n s hI => turn n s hI _) n h)
    (fun {σ₃ mC v u} _ _ hv z w e => ?_) (fun z_ z_ z_ => trivial) c trivial hI it fI k1 k2 (Nz.refl _) (.tail _ (.head _)) (.tail _ (.tail _ (.head _))) (.inl (.head _)) (by rw [eH]; exact hq) (fun acc' σ₃ mC' q c' z_ z_ => hR K D acc' σ₃ mC' q c')
  rw [lookup_setL] at e
  by_cases hz : z = x'
  · rw [if_pos hz] at e
    cases e
    exact ⟨fun z_ => ⟨u, by rw [hz, if_pos rfl], hv⟩, fun h => absurd (by rw [hz]; exact .head _) h⟩
  · rw [if_neg hz] at e
    exact ⟨fun h => absurd (ofString_inj (List.mem_singleton.mp h)) hz, fun z_ => e⟩
theorem ev_comp1 {e : Expr} (h1 : Ok C U n it') (h2 : Ok C U n elt') (h3 : Oks C U n ifs') : EvOk C U n e (.comp1 elt' x' it' ifs') := by
  intro F V m σ Q hn hm N hw P E hP
  (refine ob_EEEEEEAAAAA (inv_comp1 hm) fun elt xp it ifs sc p o1_ hsc hcm hit hel hif => ?_; subst o1_)
  have S := scOk_of hsc hcm
  refine ob_EA (clos_ok (sc := sc) (env := V.env) fun q hq e => N.e.cel q.1 (S.free q hq e)) fun cl hcl hclk => ?_
  rw [eval_ListComp]
  refine wpAny_comprehension_free (use := none) rfl (foldless hit) hcl S.knd (fun q hq e => by rw [nodup_lookup S.nd q hq, e]) ?_
  refine (h1 it).1 hn hit N hw _ _ fun u σ₁ q r₁ n₁ => ?_
  (revert q; refine ob_EAr fun v q hv => ?_)
  refine comp1_ok (Qf := fun vs H₂ => Q (.ref H₂.length) (H₂ ++ [.list vs])) (RR := fun acc K => compPost C.M F.A E none P acc K) h2 h3 hn (N.step r₁ n₁) S hclk hel hif hv q fun K D acc σ₂ mC q c => ?_
  exact ⟨mC, c.ns, fun h' hs => c.adopt hs q fun x σ' q r nx => hP x σ' q r (n₁.trans nx)⟩
end
section
variable {prog : Program} {w : World} {A : Around} {E : Value → Shared → Prop} {s : Shared}
end
section
variable {C : Cx} {F : Fm} {V : Vm} {m : Str → Option Value} {σ : Sg} {U : UTy} {n : Nat} {E : Value → Shared → Prop} {a : RE}
theorem VsRel.take : ∀ (k : Nat) {us : List RV} {vs : List Value}, VsRel C σ us vs → VsRel C σ (us.take k) (vs.take k)
  | 0, us, vs, h => .nil
  | k + 1, [], vs, h => by rw [h.nil_inv]; exact .nil
  | k + 1, u :: us, vs, h => by
    (refine ob_EEAA (h.cons_inv) fun y ys o1_ x r => ?_; subst o1_)
    exact .cons x (VsRel.take k r)
end
section
variable {C : Cx} {U : UTy} {n : Nat}
theorem ok_no {r : RE} (h1 : ∀ loc H Q, wpE C.G U r loc H Q → False) (h2 : ∀ loc H Q, wpT C.G U r (fun l H' Q' => wpE C.G U r l H' Q') loc H Q → False) : Ok C U n r := fun e => ⟨(by
  intro F V m σ Q hn hm N hw
  exact (h1 _ _ _ hw).elim), (by
  intro F V m σ Q hn hm N hw
  exact (h2 _ _ _ hw).elim)⟩
theorem ok_junk : Ok C U n .junk := fun e => ⟨(by
  intro F V m σ Q hn hm N hw
  exact absurd hw id), (by
  intro F V m σ Q hn hm N hw
  exact absurd hw id)⟩
def SortOk (C : Cx) (U : UTy) (n : Nat) : Prop := ∀ a x b t, Ok C U n a → Ok C U n b → Ok C U n (.sortk a x b t)
mutual
theorem okE (hX : UpdOk C) (hU : UOk C U n) (hS : SortOk C U n) : ∀ r : RE, Ok C U n r
  | .const v => ts_plain (fun e => ev_const) (fun z_ z_ z_ z_ => rfl) fun ns e h => by (refine ob_EEEA (inv_const h) fun z_ z_ z_ o1_ z_ => ?_; subst o1_); exact fun z_ z_ => rfl
  | .loc x => ts_plain (fun e => ev_loc) (fun z_ z_ z_ z_ => rfl) fun ns e h => by (refine ob_EA (inv_loc h) fun z_ o1_ z_ => ?_; subst o1_); exact fun z_ z_ => rfl
  | .glb x => ts_plain (fun e => ev_glb) (fun z_ z_ z_ z_ => rfl) fun ns e h => by (refine ob_EA (inv_glb h) fun z_ o1_ z_ => ?_; subst o1_); exact fun z_ z_ => rfl
  | .boolop k rs => fun e => ⟨ev_boolop (okEs hX hU hS rs), ts_bool (okEs hX hU hS rs)⟩
  | .bin op a b => ts_plain (fun e => ev_bin (okE hX hU hS a) (okE hX hU hS b)) (fun z_ z_ z_ z_ => rfl) fun ns e h => by (refine ob_EEEA (inv_bin h) fun z_ z_ z_ o1_ z_ => ?_; subst o1_); exact fun z_ z_ => rfl
  | .not a => fun e => ⟨ev_not (okE hX hU hS a), ts_not (okE hX hU hS a)⟩
  | .neg a => ts_plain (fun e => ev_neg (okE hX hU hS a)) (fun z_ z_ z_ z_ => rfl) fun ns e h => by (refine ob_EEA (inv_neg h) fun z_ z_ o1_ z_ => ?_; subst o1_); exact fun z_ z_ => rfl
  | .cond t a b => fun e => ⟨ev_cond (okE hX hU hS t) (okE hX hU hS a) (okE hX hU hS b), ts_cond (okE hX hU hS t) (okE hX hU hS a) (okE hX hU hS b)⟩
  | .list rs => ts_plain (fun e => ev_list (okEs hX hU hS rs)) (fun z_ z_ z_ z_ => rfl) fun ns e h => by (refine ob_EEA (inv_list h) fun z_ z_ o1_ z_ => ?_; subst o1_); exact fun z_ z_ => rfl
  | .tup rs => ts_plain (fun e => ev_tup (okEs hX hU hS rs)) (fun z_ z_ z_ z_ => rfl) fun ns e h => by (refine ob_EEEA (inv_tup h) fun z_ z_ z_ o1_ z_ => ?_; subst o1_); exact fun z_ z_ => rfl
  | .dict0 => ok_no (fun z_ z_ z_ h => h) fun z_ z_ z_ h => h
  | .comp1 elt x it ifs => ts_plain (fun e => ev_comp1 (okE hX hU hS it) (okE hX hU hS elt) (okEs hX hU hS ifs)) (fun z_ z_ z_ z_ => rfl) fun ns e h => by (refine ob_EEEEEEA (inv_comp1 h) fun z_ z_ z_ z_ z_ z_ o1_ z_ => ?_; subst o1_); exact fun z_ z_ => rfl
  | .comp2 elt x it y it2 ifs => ok_no (fun z_ z_ z_ h => h) fun z_ z_ z_ h => h
  | .cmp a ops es => fun e => ⟨ev_cmp (okE hX hU hS a) (okEs hX hU hS es), ts_cmp (okE hX hU hS a) (okEs hX hU hS es)⟩
  | .call f args => ts_plain (fun e => ev_call hU (okE hX hU hS f) (okEs hX hU hS args)) (fun z_ z_ z_ z_ => rfl) fun ns e h => by (refine ob_EEEEA (inv_call h) fun z_ z_ z_ z_ o1_ z_ => ?_; subst o1_); exact fun z_ z_ => rfl
  | .meth o x args => ts_plain (fun e => ev_meth hX hU (okE hX hU hS o) (okEs hX hU hS args)) (fun z_ z_ z_ z_ => rfl) fun ns e h => by (refine ob_EEEEA (inv_meth h) fun z_ z_ z_ z_ o1_ z_ => ?_; subst o1_); exact fun z_ z_ => rfl
  | .attr o x => ts_plain (fun e => ev_attr (okE hX hU hS o)) (fun z_ z_ z_ z_ => rfl) fun ns e h => by (refine ob_EEA (inv_attr h) fun z_ z_ o1_ z_ => ?_; subst o1_); exact fun z_ z_ => rfl
  | .sub o i => ts_plain (fun e => ev_sub (okE hX hU hS o) (okE hX hU hS i)) (fun z_ z_ z_ z_ => rfl) fun ns e h => by (refine ob_EEEA (inv_sub h) fun z_ z_ z_ o1_ z_ => ?_; subst o1_); exact fun z_ z_ => rfl
  | .sortk a x b t => hS a x b t (okE hX hU hS a) (okE hX hU hS b)
  | .rev o => ok_no (fun z_ z_ z_ h => h) fun z_ z_ z_ h => h
  | .upto o k => ok_no (fun z_ z_ z_ h => h) fun z_ z_ z_ h => h
  | .junk => ok_junk
theorem okEs (hX : UpdOk C) (hU : UOk C U n) (hS : SortOk C U n) : ∀ rs : List RE, Oks C U n rs
  | [] => trivial
  | r :: rs => ⟨okE hX hU hS r, okEs hX hU hS rs⟩
end
end
end Mine
section
set_option genSizeOfSpec false
set_option genInjectivity false
set_option genSizeOf false
namespace Mine
open PySem PySem.W PySem.Calls PyProof.Rows PySem.SeqAt
abbrev NF (F : Fm) : Addr → Prop := fun a => a = F.L ∨ ∃ x, F.env.cells.lookup x = some a
noncomputable abbrev Fm.nms (F : Fm) : Ns := tabMk F.tm ++ F.env.scope.names
noncomputable abbrev Fm.vm (F : Fm) (m : Str → Option Value) (loc : Loc) : Vm := ⟨F.env, F.nms, m, loc⟩
structure SNow (C : Cx) (F : Fm) (m : Str → Option Value) (loc : Loc) (σ : Sg) : Prop where
  a : Act C F
  e : EnvOk C F (F.vm m loc) m σ
  lo : F.env.locals = F.L
  l : LRel C F (F.vm m loc) σ
  r : Rel C F m σ
  ce : ∀ x, F.env.kindOf x = some .cell → ∃ c o v, F.env.cells.lookup x = some c ∧ Held F σ c o ∧ o.data = .cell v
  c4 : ∀ x y c, F.env.cells.lookup x = some c → F.env.cells.lookup y = some c → x = y
inductive FlRel (C : Cx) (σ : Sg) : RFl → Flow → Prop where
  | next : FlRel C σ .next .next
  | brk : FlRel C σ .brk .brk
  | cont : FlRel C σ .cont .cont
  | ret {v : RV} {u : Value} : VRel C σ v u → FlRel C σ (.ret v) (.ret u)
def SP (C : Cx) (F : Fm) (σ : Sg) (Qr : PF) (Q : Flow → Shared → Prop) : Prop :=
  ∀ fl flow loc m σ', Qr fl loc σ'.H → FlRel C σ' fl flow → SNow C F m loc σ' → Nx (NF F) σ σ' → Q flow σ'.s
def StOk (C : Cx) (U : UTy) (n : Nat) (st : Stmt) (r : RT) : Prop := ∀ {F : Fm} {m : Str → Option Value} {loc : Loc} {σ : Sg} {E : Value → Shared → Prop} {Qr : PF} {Q : Flow → Shared → Prop},
  F.n = n → mtS F.nms st r = true → SNow C F m loc σ → wpS C.G U r loc σ.H Qr → SP C F σ Qr Q → wpAny C.M F.A (exec st F.env) Q E σ.s
def SsOk (C : Cx) (U : UTy) (n : Nat) (st : List Stmt) (r : List RT) : Prop := ∀ {F : Fm} {m : Str → Option Value} {loc : Loc} {σ : Sg} {E : Value → Shared → Prop} {Qr : PF} {Q : Flow → Shared → Prop},
  F.n = n → mtSs F.nms st r = true → SNow C F m loc σ → wpSs C.G U r loc σ.H Qr → SP C F σ Qr Q → wpAny C.M F.A (execs st F.env) Q E σ.s
section
variable {C : Cx} {F : Fm} {m : Str → Option Value} {loc : Loc} {σ σ' σ₁ : Sg} {U : UTy} {n : Nat} {E : Value → Shared → Prop} {I : Addr} {o : Obj} {s' : Shared} {X : Addr → Prop}
theorem SP.after {Qr : PF} {Q : Flow → Shared → Prop} (h : SP C F σ Qr Q) (x : Nx (NF F) σ σ') : SP C F σ' Qr Q := fun fl flow loc m σ'' q f N y => h fl flow loc m σ'' q f N (x.trans y)
theorem Nx.t (x : Nx (NL F) σ σ') : Nx (NF F) σ σ' := x.more fun z_ h => .inl h
theorem SNow.now (N : SNow C F m loc σ) : Now C F (F.vm m loc) m σ := ⟨N.a, N.e, N.l, N.r⟩
theorem SNow.step (N : SNow C F m loc σ) (r : Rel C F m σ') (x : Nx (NL F) σ σ') : SNow C F m loc σ' :=
  ⟨N.a, N.e.step x, N.lo, N.l.step x, r, fun y k => let ⟨c, o, v, h1, h2, h3⟩ := N.ce y k; ⟨c, o, v, h1, h2.step x, h3⟩, N.c4⟩
theorem cell_ne {c : Addr} {oc : Obj} {v : Option Value} (h : σ.h.get? c = some oc) (d : oc.data = .cell v) (hI : σ.h.get? I = some o) (q : ∀ v, o.data ≠ .cell v) : c ≠ I := fun e => by
  rw [e, hI] at h
  cases h
  exact q v d
theorem SNow.tick (N : SNow C F m loc σ) (hI : Held F σ I o) (q : ∀ v, o.data ≠ .cell v) (T : Turned C F m σ I s') : SNow C F m loc (σ.at s') := by
  refine ⟨N.a, ⟨N.e.knd, N.e.gl, N.e.bl, N.e.frm, N.e.kin, N.e.cel, N.e.tab, .inl ⟨N.lo, rfl⟩⟩, N.lo, fun y v e => ⟨fun k d => ?_, fun k => ?_⟩, T.r, fun y k => ?_, N.c4⟩
  · refine ob_EA ((N.l y v e).1 k d) fun u a b => ?_
    exact ⟨u, a, b.mono T.c⟩
  · refine ob_EEEAAA ((N.l y v e).2 k) fun c oc u a b d r => ?_
    exact ⟨c, oc, u, a, ⟨b.1, b.2.1, T.but c oc (cell_ne b.2.2 d hI.std.2.2 q) b.2.2⟩, d, r.mono T.c⟩
  · refine ob_EEEAA (N.ce y k) fun c oc v h1 h2 h3 => ?_
    exact ⟨c, oc, v, h1, h2.tick T (cell_ne h2.std.2.2 h3 hI.std.2.2 q), h3⟩
theorem evalS {e : Expr} {r : RE} {Qr : PV} {Q : Value → Shared → Prop} (h : Ok C U n r) (hn : F.n = n) (hm : mtE F.nms e r = true) (N : SNow C F m loc σ) (hw : wpE C.G U r loc σ.H Qr)
    (hQ : ∀ v u σ', Qr v σ'.H → VRel C σ' v u → SNow C F m loc σ' → Nx (NL F) σ σ' → Q u σ'.s) : wpAny C.M F.A (eval e F.env) Q E σ.s :=
  (h e).1 (V := F.vm m loc) hn hm N.now hw _ _ fun u σ' q r' x => let ⟨v, q, hv⟩ := q; hQ v u σ' q hv (N.step r' x) x
theorem testS {e : Expr} {r : RE} {Qr : PB} {Q : Bool → Shared → Prop} (h : Ok C U n r) (hn : F.n = n) (hm : mtE F.nms e r = true) (N : SNow C F m loc σ) (hw : wpT C.G U r (fun l H' Q' => wpE C.G U r l H' Q') loc σ.H Qr)
    (hQ : ∀ b σ', Qr b σ'.H → SNow C F m loc σ' → Nx (NL F) σ σ' → Q b σ'.s) : wpAny C.M F.A (isTrue e F.env (eval e F.env)) Q E σ.s :=
  (h e).2 (V := F.vm m loc) hn hm N.now hw _ _ fun b σ' q r' x => hQ b σ' q (N.step r' x) x
theorem nms_w {x : Str} (h : isW (F.nms.lookup x) = true) : isW (F.env.kindOf x) = true := by
  show isW (F.env.scope.names.lookup x) = true
  have h : isW ((tabMk F.tm ++ F.env.scope.names).lookup x) = true := h
  cases e : F.tm with
  | none => rw [e] at h; exact h
  | some t =>
    rw [e] at h
    have h : isW (((tabName t, NameKind.globalExplicit) :: F.env.scope.names).lookup x) = true := h
    rw [List.lookup_cons] at h
    cases hx : x == tabName t with
    | true => rw [hx] at h; exact absurd h Bool.false_ne_true
    | false => rw [hx] at h; exact h
theorem store_ok {x : String} {v : RV} {u : Value} {Q : Unit → Shared → Prop} (hx : isW (F.env.kindOf (Str.ofString x)) = true) (N : SNow C F m loc σ) (hv : VRel C σ v u)
    (hQ : ∀ m' s', SNow C F m' (setL x v loc) (σ.at s') → Carry σ (σ.at s') → Nx (NF F) σ (σ.at s') → (∀ I o, Held F σ I o → (∀ v, o.data ≠ .cell v) → Held F (σ.at s') I o) → Q () s') :
    wpAny C.M F.A (storeName F.env (Str.ofString x) u) Q E σ.s := by
  cases hk : F.env.kindOf (Str.ofString x) with
  | none => rw [hk] at hx; exact absurd hx Bool.false_ne_true
  | some k =>
    rw [hk] at hx
    cases k with
    | «local» =>
      have ns : σ.h.Ns F.env.locals m := by rw [N.lo]; exact N.r.fr.ns
      refine wpAny_storeName_local hk ns (fun h' hn hs => ?_) (by rw [show F.env.scope.kind = .function from N.e.knd]; rfl)
      rw [N.lo] at hn hs
      have F' : Fr F.h₀ F.L h' (fun y => if y = Str.ofString x then some u else m y) := N.r.fr.set hn hs
      have hb : KeepBut F.L σ.h ({ σ.s with heap := h', toks := σ.s.toks + 1 } : Shared).heap := fun b o hb e => hs.extBut b o hb e
      have c := butL_carry N.r hb
      have nx : Nx (NL F) σ (σ.at { σ.s with heap := h', toks := σ.s.toks + 1 }) := Nx.keepL N.r F' hb ⟨rfl, rfl, rfl⟩
      have kp : ∀ I o, Held F σ I o → Held F (σ.at { σ.s with heap := h', toks := σ.s.toks + 1 }) I o := fun I o h => h.step nx
      refine hQ _ _ ⟨N.a, ⟨N.e.knd, N.e.gl, N.e.bl, N.e.frm, N.e.kin, N.e.cel, N.e.tab, .inl ⟨N.lo, rfl⟩⟩, N.lo, fun y v' e => ?_, N.r.keepL F' hb, fun y k => ?_, N.c4⟩ c nx.t fun I o h z_ => kp I o h
      · have e : (setL x v loc).lookup y = some v' := e
        rw [lookup_setL] at e
        by_cases hy : y = x
        · subst hy
          rw [if_pos rfl] at e
          cases e
          refine ⟨fun z_ z_ => ⟨u, ?_, hv.mono c⟩, fun h => ?_⟩
          · show (if _ then _ else _) = _
            rw [if_pos rfl]
          · have h : F.env.kindOf (Str.ofString y) = some .cell ∨ F.env.kindOf (Str.ofString y) = some .free := h
            rw [hk] at h
            rcases h with h | h <;> cases h
        · rw [if_neg hy] at e
          refine ⟨fun h d => ?_, fun h => ?_⟩
          · refine ob_EA ((N.l y v' e).1 h d) fun u' h1 h2 => ?_
            refine ⟨u', ?_, h2.mono c⟩
            show (if Str.ofString y = Str.ofString x then some u else m (Str.ofString y)) = _
            rw [if_neg fun q => hy (ofString_inj q)]; exact h1
          · refine ob_EEEAAA ((N.l y v' e).2 h) fun c' o' u' h1 h2 h3 h4 => ?_
            exact ⟨c', o', u', h1, h2.step nx, h3, h4.mono c⟩
      · refine ob_EEEAA (N.ce y k) fun c' o' v' h1 h2 h3 => ?_
        exact ⟨c', o', v', h1, kp _ _ h2, h3⟩
    | cell =>
      refine ob_EEEAA (N.ce _ hk) fun c o v₀ hc hH hd => ?_
      refine wpAny_storeName_cell N.e.knd hk hc ⟨o, hH.std.2.2, hd⟩ fun h' hv' hs => ?_
      (revert hv'; refine ob_EAr fun o' ho' hd' => ?_)
      have T := hH.turn (k := σ.s.toks) N.r (fun hf => hf.2.2 v₀ hd) fun b y hb e => hs.extBut b y hb e
      have nx : Nx (NF F) σ (σ.at { σ.s with heap := h', toks := σ.s.toks }) := ⟨fun z_ z_ e => e, fun z_ e => .inl e, fun a y ha g => by
        by_cases e : a = c
        · rw [e]; exact ⟨o', ho'⟩
        · exact ⟨y, T.but a y e g⟩, fun a y ha q g => T.but a y (fun e => by rw [e, hH.std.2.2] at g; cases g; exact (q (.inr ⟨_, by rw [e]; exact hc⟩)).2 v₀ hd) g, T.sm, Hx.refl _⟩
      refine hQ m _ ⟨N.a, ⟨N.e.knd, N.e.gl, N.e.bl, N.e.frm, N.e.kin, N.e.cel, N.e.tab, .inl ⟨N.lo, rfl⟩⟩, N.lo, fun y v' e => ?_, T.r, fun y k => ?_, N.c4⟩ T.c nx fun I oI h q => h.tick T fun e => ?_
      · have e : (setL x v loc).lookup y = some v' := e
        rw [lookup_setL] at e
        by_cases hy : y = x
        · subst hy
          rw [if_pos rfl] at e
          cases e
          refine ⟨fun h z_ => ?_, fun z_ => ⟨c, o', u, hc, ⟨hH.std.1, hH.std.2.1, ho'⟩, hd', hv.mono T.c⟩⟩
          have h : F.env.kindOf (Str.ofString y) = some .local := h
          rw [hk] at h; cases h
        · rw [if_neg hy] at e
          refine ⟨fun h d => ?_, fun h => ?_⟩
          · refine ob_EA ((N.l y v' e).1 h d) fun u' h1 h2 => ?_
            exact ⟨u', h1, h2.mono T.c⟩
          · refine ob_EEEAAA ((N.l y v' e).2 h) fun c' o₁ u' h1 h2 h3 h4 => ?_
            refine ⟨c', o₁, u', h1, ⟨h2.1, h2.2.1, T.but c' o₁ (fun q => hy (ofString_inj (N.c4 _ _ c' h1 ?_))) h2.2.2⟩, h3, h4.mono T.c⟩
            rw [q]; exact hc
      · refine ob_EEEAA (N.ce y k) fun c' o₁ v₁ h1 h2 h3 => ?_
        by_cases hc' : c' = c
        · subst hc'; exact ⟨_, o', _, h1, h2.now ho', hd'⟩
        · exact ⟨c', o₁, v₁, h1, h2.tick T hc', h3⟩
      · have g := h.std.2.2
        rw [e, hH.std.2.2] at g
        cases g
        exact q v₀ hd
    | free => exact absurd hx Bool.false_ne_true
    | globalExplicit => exact absurd hx Bool.false_ne_true
    | globalImplicit => exact absurd hx Bool.false_ne_true
end
end Mine
end
section
set_option genSizeOfSpec false
set_option genInjectivity false
set_option genSizeOf false
namespace Mine
open PySem PySem.W PySem.Calls PyProof.Rows PySem.SeqAt
structure Kp (F : Fm) (σ σ' : Sg) : Prop where
  c : Carry σ σ'
  n : Nx (NF F) σ σ'
  h : ∀ I o, Held F σ I o → (∀ v, o.data ≠ .cell v) → Held F σ' I o
  H : σ'.H = σ.H
section
variable {C : Cx} {F : Fm} {m : Str → Option Value} {loc loc' : Loc} {σ σ' σ₁ σ₂ : Sg} {U : UTy} {n : Nat} {E : Value → Shared → Prop} {I : Addr} {o : Obj} {s' : Shared}
theorem Kp.refl (σ : Sg) : Kp F σ σ := ⟨Carry.refl _, Nx.refl _, fun z_ z_ h z_ => h, rfl⟩
theorem Kp.trans (x : Kp F σ σ₁) (y : Kp F σ₁ σ₂) : Kp F σ σ₂ := ⟨x.c.trans y.c, x.n.trans y.n, fun I o h q => y.h I o (x.h I o h q) q, y.H.trans x.H⟩
theorem Kp.keep {h' : Heap} {t : Nat} (hk : Keep σ.h h') : Kp F σ (σ.at { σ.s with heap := h', toks := t }) :=
  ⟨keep_carry (s' := { σ.s with heap := h', toks := t }) hk, Nx.keep (s' := { σ.s with heap := h', toks := t }) hk ⟨rfl, rfl, rfl⟩, fun I o h z_ => ⟨⟨h.std.1, h.std.2.1, hk I o h.std.2.2⟩, h.low⟩, rfl⟩
def AP (C : Cx) (F : Fm) (loc' : Loc) (σ : Sg) (Q : Unit → Shared → Prop) : Prop := ∀ m' σ', SNow C F m' loc' σ' → Kp F σ σ' → Q () σ'.s
theorem name_ok {x : String} {v : RV} {u : Value} {Q : Unit → Shared → Prop} (hx : isW (F.env.kindOf (Str.ofString x)) = true) (N : SNow C F m loc σ) (hv : VRel C σ v u) (hQ : AP C F (setL x v loc) σ Q) : wpAny C.M F.A (storeName F.env (Str.ofString x) u) Q E σ.s :=
  store_ok hx N hv fun m' s' N' c n h => hQ m' (σ.at s') N' ⟨c, n, h, rfl⟩
set_option tactic.hygienic true in
theorem inv_names {ns : Ns} {es : List Expr} {x : String} {xs : List String} (h : mtNames ns es (x :: xs) = true) : ∃ np es', es = .Name (Str.ofString x) np :: es' ∧ isW (ns.lookup (Str.ofString x)) = true ∧ mtNames ns es' xs = true := by
  cases es with
  | nil => exact absurd h Bool.false_ne_true
  | cons e es =>
    cases e <;> first | exact absurd h Bool.false_ne_true | skip
    rename_i id np
    refine ob_A (an (show (id == Str.ofString x && isW (ns.lookup id) && mtNames ns es xs) = true from h)) fun h h3 => ?_
    refine ob_A (an h) fun h1 h2 => ?_
    have e : id = Str.ofString x := eq_of_beq h1
    subst e
    exact ⟨np, es, rfl, h2, h3⟩
theorem inv_names0 {ns : Ns} {es : List Expr} (h : mtNames ns es [] = true) : es = [] := by
  cases es with
  | nil => rfl
  | cons e es => cases e <;> exact absurd h Bool.false_ne_true
theorem names_ok {xs : List String} : ∀ {es : List Expr} {vs : List RV} {us : List Value} {m : Str → Option Value} {loc : Loc} {σ : Sg} {Q : Unit → Shared → Prop}, mtNames F.nms es xs = true → xs.length = vs.length → VsRel C σ vs us → SNow C F m loc σ →
    AP C F ((xs.zip vs).foldl (fun l q => setL q.1 q.2 l) loc) σ Q → wpAny C.M F.A (assignInOrder ((assignEach es F.env).map (·.2)) us) Q E σ.s := by
  induction xs with
  | nil =>
    intro es vs us m loc σ Q hm hl hv N hQ
    rw [inv_names0 hm]
    cases vs with
    | cons v vs => cases hl
    | nil =>
      rw [hv.nil_inv]
      exact wpAny_pure (hQ m σ N (Kp.refl _))
  | cons x xs ih_ =>
    intro es vs us m loc σ Q hm hl hv N hQ
    (have q_ := inv_names hm; clear hm; revert q_; refine ob_EEAAr fun np es o1_ hw hm => ?_; subst o1_)
    cases vs with
    | nil => cases hl
    | cons v vs =>
      (replace hv := hv.cons_inv; revert hv; refine ob_EEAAr fun u us o1_ hv hvs => ?_; subst o1_)
      show wpAny C.M F.A (assignInOrder (assign (.Name (Str.ofString x) np) F.env :: (assignEach es F.env).map (·.2)) (u :: us)) Q E σ.s
      unfold assignInOrder
      refine wpAny_bind (wpAny_holding (wpAny_assign_Name (name_ok (nms_w hw) N hv fun m' σ' N' k => ?_)))
      exact ih_ hm (by simpa using hl) (hvs.mono k.c) N' fun m'' σ'' N'' k' => hQ m'' σ'' N'' (k.trans k')
theorem names_len {xs : List String} : ∀ {es : List Expr} {ns : Ns}, mtNames ns es xs = true → (assignEach es F.env).length = xs.length ∧ (assignEach es F.env).findIdx? (·.1) = none := by
  induction xs with
  | nil =>
    intro es ns hm
    rw [inv_names0 hm]; exact ⟨rfl, rfl⟩
  | cons x xs ih_ =>
    intro es ns hm
    (have q_ := inv_names hm; clear hm; revert q_; refine ob_EEAAr fun np es o1_ hw hm => ?_; subst o1_)
    refine ob_A (ih_ hm) fun h1 h2 => ?_
    constructor
    · show (assignEach es F.env).length + 1 = xs.length + 1
      rw [h1]
    · show List.findIdx? (·.1) ((false, assign (.Name (Str.ofString x) np) F.env) :: assignEach es F.env) = none
      rw [List.findIdx?_cons, h2]
      rfl
theorem SNow.grown (N : SNow C F m loc σ) {h' : Heap} {t : Nat} (hk : Keep σ.h h') : SNow C F m loc (σ.at { σ.s with heap := h', toks := t }) :=
  N.step (N.r.keep (s' := { σ.s with heap := h', toks := t }) hk) (Nx.keep (s' := { σ.s with heap := h', toks := t }) hk ⟨rfl, rfl, rfl⟩)
theorem inv_tgn {ns : Ns} {t : Expr} {x : String} (h : mtTg ns t (.name x) = true) : ∃ np, t = .Name (Str.ofString x) np ∧ isW (ns.lookup (Str.ofString x)) = true := by
  refine ob_A (an h) fun h0 h => ?_
  (refine ob_EE (kName h0) fun z np o1_ => ?_; subst o1_)
  refine ob_A (an h) fun h1 h2 => ?_
  have e : z = Str.ofString x := eq_of_beq h1
  subst e
  exact ⟨np, rfl, h2⟩
theorem inv_tgs {ns : Ns} {t : Expr} {xs : List String} (h : mtTg ns t (.names xs) = true) : ∃ es k p, t = .Tuple es k p ∧ mtNames ns es xs = true := by
  refine ob_A (an h) fun h0 h => ?_
  (refine ob_EEE (kTup h0) fun es k p o1_ => ?_; subst o1_)
  exact ⟨es, k, p, rfl, h⟩
set_option tactic.hygienic true in
theorem assign_ok {t : Expr} {tg : RTg} {v : RV} {u : Value} {Q : Unit → Shared → Prop} (hm : mtTg F.nms t tg = true) (N : SNow C F m loc σ) (hv : VRel C σ v u) (hl : asgT tg v loc = some loc') (hQ : AP C F loc' σ Q) : wpAny C.M F.A (assign t F.env u) Q E σ.s := by
  cases tg with
  | name x =>
    (refine ob_EA (inv_tgn hm) fun np o1_ hw => ?_; subst o1_)
    cases hl
    exact wpAny_assign_Name (name_ok (nms_w hw) N hv hQ)
  | names xs =>
    (refine ob_EEEA (inv_tgs hm) fun es k p o1_ hw => ?_; subst o1_)
    cases v <;> first | exact nos hl | skip
    rename_i vs
    refine ob_A (if_of (show (if xs.length = vs.length then some ((xs.zip vs).foldl (fun l p => setL p.1 p.2 l) loc) else none) = some loc' from hl)) fun hlen e => ?_
    subst e
    (refine ob_EEEAA (hv.tup_at (N.a.inK N.r)) fun a us k' o1_ g R => ?_; subst o1_)
    have hl2 := R.length
    refine ob_A (names_len (F := F) hw) fun l1 l2 => ?_
    refine wpAny_bind (wpAny_standAt ?_)
    refine unpack_tuple N.a.hd (items := us.toArray) ⟨_, g, rfl, k', rfl⟩ (by rw [l1, hlen, hl2]; simp) l2 fun h' hx => ?_
    have hk : Keep σ.h h' := fun b o e => hx b o (Nat.ne_of_lt (Heap.lt_size e)) e
    have kp : Kp F σ _ := Kp.keep (t := σ.s.toks) hk
    exact names_ok hw hlen (R.mono kp.c) (N.grown (t := σ.s.toks) hk) fun m' σ' N' k => hQ m' σ' N' (kp.trans k)
theorem inter_false (N : SNow C F m loc σ) : interactive F.env = false := by
  unfold interactive
  rw [show F.env.scope.kind = .function from N.e.knd]; rfl
theorem swaps_plain {e : Expr} {t : Option Expr} {k : Nat} {env : Env} (h : plainVal e = true) : swapsWith e t k env = pure false := by
  cases e <;> first | rfl | exact absurd h Bool.false_ne_true
theorem st_expr {st : Stmt} {r : RE} (h : Ok C U n r) : StOk C U n st (.expr r) := by
  intro F m loc σ E Qr Q hn hm N hw hQ
  (have q_ := inv_expr hm; clear hm; revert q_; refine ob_EEAAr fun e p o1_ hp hm => ?_; subst o1_)
  refine wpAny_Expr_any (evalS h hn hm N hw fun v u σ' q hv N' x => ?_) (inter_false N) (swaps_plain hp)
  exact hQ .next .next loc m σ' q .next N' x.t
theorem st_ret {st : Stmt} {r : RE} (h : Ok C U n r) : StOk C U n st (.ret (some r)) := by
  intro F m loc σ E Qr Q hn hm N hw hQ
  (have q_ := inv_ret hm; clear hm; revert q_; refine ob_EEAr fun e p o1_ hm => ?_; subst o1_)
  exact wpAny_Return_some (evalS h hn hm N hw fun v u σ' q hv N' x => hQ _ _ loc m σ' q (.ret hv) N' x.t)
theorem st_ret0 {st : Stmt} : StOk C U n st (.ret none) := by
  intro F m loc σ E Qr Q hn hm N hw hQ
  (refine ob_E (inv_ret0 hm) fun p o1_ => ?_; subst o1_)
  exact wpAny_Return_none (hQ _ _ loc m σ hw (.ret .none) N (Nx.refl _))
theorem st_ite {st : Stmt} {t : RE} {a b : List RT} (h0 : Ok C U n t) (h1 : ∀ ss, SsOk C U n ss a) (h2 : ∀ ss, SsOk C U n ss b) : StOk C U n st (.ite t a b) := by
  intro F m loc σ E Qr Q hn hm N hw hQ
  (refine ob_EEEEAAA (inv_ite hm) fun t' a' b' p o1_ ht ha hb => ?_; subst o1_)
  refine wpAny_If (testS h0 hn ht N hw fun c σ' q N' x => ?_)
  cases c with
  | true => exact h1 _ hn ha N' q (hQ.after x.t)
  | false => exact h2 _ hn hb N' q (hQ.after x.t)
theorem st_brk {st : Stmt} : StOk C U n st .brk := by
  intro F m loc σ E Qr Q hn hm N hw hQ
  (refine ob_E (inv_brk hm) fun p o1_ => ?_; subst o1_)
  exact wpAny_bind (wpAny_standAt (wpAny_pure (hQ _ _ loc m σ hw .brk N (Nx.refl _))))
theorem st_cont {st : Stmt} : StOk C U n st .cont := by
  intro F m loc σ E Qr Q hn hm N hw hQ
  (refine ob_E (inv_cont hm) fun p o1_ => ?_; subst o1_)
  exact wpAny_bind (wpAny_standAt (wpAny_pure (hQ _ _ loc m σ hw .cont N (Nx.refl _))))
theorem st_pass {st : Stmt} : StOk C U n st .pass := by
  intro F m loc σ E Qr Q hn hm N hw hQ
  (refine ob_E (inv_pass hm) fun p o1_ => ?_; subst o1_)
  exact wpAny_Pass (hQ _ _ loc m σ hw .next N (Nx.refl _))
theorem st_no {st : Stmt} {r : RT} (h : ∀ loc H Q, wpS C.G U r loc H Q → False) : StOk C U n st r := by
  intro F m loc σ E Qr Q hn hm N hw hQ
  exact (h _ _ _ hw).elim
theorem swaps_attr {e o : Expr} {x : Str} {ap : Pos} {k : Nat} {env : Env} : swapsWith e (some (.Attribute o x ap)) k env = pure false := by
  cases e <;> rfl
theorem st_asgAttr {st : Stmt} {o e : RE} {x : String} (h1 : Ok C U n e) (h2 : Ok C U n o) : StOk C U n st (.asgAttr o x e) := by
  intro F m loc σ E Qr Q hn hm N hw hQ
  (refine ob_EEEEAA (inv_asgAttr hm) fun o' ap e' p o1_ he ho => ?_; subst o1_)
  refine plainObj_wpAny_Assign_Attribute (evalS h1 hn he N hw fun v u σ₁ q hv N₁ x₁ => ?_) swaps_attr
  refine evalS h2 hn ho N₁ q fun ov ou σ₂ q₂ hov N₂ x₂ => ?_
  refine ob_EA (opt_of q₂) fun H₃ hf q₂ => ?_
  refine setAttr_ok N₂.a N₂.r hov (hv.mono x₂.carry) hf _ _ fun z_ σ₃ e r₃ x₃ => ?_
  exact hQ .next .next loc m σ₃ (by rw [show σ₃.H = H₃ from e]; exact q₂) .next (N₂.step r₃ x₃) ((x₁.trans x₂).trans x₃).t
theorem own_go {ns : Ns} {t : Expr} {tg : RTg} {src : Src} {v : Value} {k : Nat} {Q : Unit → Shared → Prop} {A : Around} (hm : mtTg ns t tg = true) (it : ItO C σ src k o) (g : σ.h.get? I = some o) (h : Q () σ.s) : wpAny C.M A (letOwnedTupleGo t (.ref I) v) Q E σ.s := by
  cases tg with
  | name x =>
    (refine ob_EA (inv_tgn hm) fun np o1_ hw => ?_; subst o1_)
    exact wpAny_pure h
  | names xs =>
    (refine ob_EEEA (inv_tgs hm) fun es k' p o1_ hw => ?_; subst o1_)
    cases v with
    | ref T =>
      unfold letOwnedTupleGo
      refine wpAny_bind (wpAny_load g ?_)
      cases it with
      | list _ h1 h2 => rw [h1, h2]; exact wpAny_of_eq (a := ()) (if_neg (by simp)) h
      | tup _ h1 h2 => rw [h1, h2]; exact wpAny_of_eq (a := ()) (if_neg (by simp)) h
      | rng e => subst e; exact wpAny_of_eq (a := ()) (if_neg (by simp)) h
      | set _ h1 h2 _ => rw [h1, h2]; exact wpAny_of_eq (a := ()) (if_neg (by simp)) h
    | _ => exact wpAny_pure h
theorem st_for {st : Stmt} {tg : RTg} {it : RE} {body : List RT} (h1 : Ok C U n it) (h2 : ∀ ss, SsOk C U n ss body) : StOk C U n st (.for_ tg it body) := by
  intro F m loc σ E Qr Q hn hm N hw hQ
  (refine ob_EEEEAAA (inv_for hm) fun t' it' b' p o1_ ht hi hb => ?_; subst o1_)
  refine wpAny_For (evalS h1 hn hi N hw fun v u σ₁ q hv N₁ x₁ => ?_) (foldless hi)
  refine iter_ok N₁.a N₁.r hv q fun src oI hq hf it => ?_
  (revert hq; refine ob_Er fun n₀ hq => ?_)
  refine ob_AAA (push_held (t := σ₁.s.toks) N₁.r hf) fun rI nI hI fI => ?_
  have N₂ := N₁.step rI nI
  have it₂ := it.step nI
  generalize σ₁.h.objs.size = I at hI fI ⊢
  refine codeAny_forLoop_any (fun k s' => ∃ i loc' m' σ' o', σ'.s = s' ∧ SNow C F m' loc' σ' ∧ Held F σ' I o' ∧ ItO C σ' src i o' ∧ wpFor (fun l' H' Q' => wpSs C.G U body l' H' Q') tg src k i loc' σ'.H Qr ∧ Nx (NF F) σ₁ σ') ?_ n₀
    ⟨0, loc, m, _, oI, rfl, N₂, hI, it₂, hq, nI.t⟩
  rintro k s' ⟨i, loc₃, m₃, σ₃, o₃, rfl, N₃, hI₃, it₃, hw₃, x₃⟩
  cases k with
  | zero => exact hw₃.elim
  | succ k =>
    obtain ⟨ov, hp, hw₃⟩ := opt_of (show optwp (peek src σ₃.H i) (fun o => match o with
      | none => Qr .next loc₃ σ₃.H
      | some v => optwp (asgT tg v loc₃) fun loc₁ => wpSs C.G U body loc₁ σ₃.H fun fl loc₂ H₂ => turnwp fl loc₂ H₂ Qr (wpFor (fun l' H' Q' => wpSs C.G U body l' H' Q') tg src k (i + 1) loc₂ H₂ Qr)) from hw₃)
    have qt := it₃.quiet.2
    refine next_ok N₃.a N₃.r hI₃ it₃ hp (fun v u o' s' e hv hI' it' T => ?_) fun s' e T => ?_
    · subst e
      refine ob_EA (opt_of hw₃) fun loc₄ hl hw₄ => ?_
      have N₄ := N₃.tick hI₃ qt.2 T
      have x₄ := x₃.tick (X := NF F) fI T.but T.sm
      refine own_go (σ := σ₃.at s') ht it' hI'.std.2.2 ?_
      refine assign_ok ht N₄ hv hl fun m₅ σ₅ N₅ kp => ?_
      have x₅ := x₄.trans kp.n
      have hI₅ := kp.h _ _ hI' it'.quiet.2.2
      have it₅ := it'.mono kp.c (by rw [kp.H]; exact Hx.refl _)
      refine h2 _ hn hb N₅ (by rw [kp.H]; exact hw₄) fun fl flow loc₆ m₆ σ₆ q₆ hf N₆ x₆ => ?_
      have xx := x₅.trans x₆
      cases hf with
      | next => exact ⟨k, Nat.lt_succ_self _, i + 1, loc₆, m₆, σ₆, o', rfl, N₆, hI₅.stepS it'.quiet.2 x₆, it₅.step x₆, q₆, xx⟩
      | cont => exact ⟨k, Nat.lt_succ_self _, i + 1, loc₆, m₆, σ₆, o', rfl, N₆, hI₅.stepS it'.quiet.2 x₆, it₅.step x₆, q₆, xx⟩
      | brk => exact hQ .next .next loc₆ m₆ σ₆ q₆ .next N₆ (x₁.t.trans xx)
      | ret hr => exact hQ _ _ loc₆ m₆ σ₆ q₆ (.ret hr) N₆ (x₁.t.trans xx)
    · subst e
      exact wpAny_pure (hQ .next .next loc₃ m₃ (σ₃.at s') hw₃ .next (N₃.tick hI₃ qt.2 T) (x₁.t.trans (x₃.tick (X := NF F) fI T.but T.sm)))
end
end Mine
end
section
set_option genSizeOfSpec false
set_option genInjectivity false
set_option genSizeOf false
namespace Mine
open PySem PySem.W PySem.Calls PyProof.Rows PySem.SeqAt
section
variable {C : Cx} {F : Fm} {m : Str → Option Value} {loc loc' : Loc} {σ σ' σ₁ σ₂ : Sg} {U : UTy} {n : Nat} {E : Value → Shared → Prop} {I K D : Addr} {o : Obj} {s' : Shared} {mC : Str → Option Value} {acc : List RV}
theorem CS.take (c : CS C F m σ K D σ₂ mC acc) : Rel C F m (σ₂.new [D] (.list acc) σ₂.s) ∧ Nx (NL F) σ (σ₂.new [D] (.list acc) σ₂.s) ∧ ∀ oC, Held F σ₂ K oC → Held F (σ₂.new [D] (.list acc) σ₂.s) K oC := by
  refine ob_EEA (c.hD) fun ws kk hD z => ?_
  have hb : ∀ a ∈ [D], ∀ o', fixd o' → ¬ σ₂.h.get? a = some o' := fun a ha o' hf g' => by
    rw [List.mem_singleton] at ha
    rw [ha, hD.std.2.2] at g'
    cases g'
    exact (lst_idle ws kk).nf hf
  have c₂ : Carry σ₂ (σ₂.new [D] (.list acc) σ₂.s) := new_carry (fun z_ z_ g => g) hb
  refine ⟨c.r.take (fun z_ z_ g => g) (by simp) (fun a ha => by rw [List.mem_singleton] at ha; rw [ha]; exact hD.std.1) (fun a ha => by rw [List.mem_singleton] at ha; rw [ha]; exact ⟨hD.low, hD.std.2.1⟩) hb (.list hD.std.2.2 (z.mono c₂)),
    ⟨fun i b e => ext_new [D] _ (c.n.ext i b e), fun a ha => ?_, c.n.liv, c.n.frm, c.n.sm, c.n.hx.trans (Hx.snoc _ _)⟩, fun oC h => ⟨⟨fun q => ?_, h.std.2.1, h.std.2.2⟩, h.low⟩⟩
  · rcases own_new.mp ha with ha | ha
    · exact c.n.new a ha
    · rw [List.mem_singleton] at ha
      rw [ha]; exact .inr c.fD
  · rcases own_new.mp q with q | q
    · exact h.std.1 q
    · exact c.ne (List.mem_singleton.mp q)
theorem used_ok {x : String} {np : Pos} {Qr : PF} {Q : Flow → Shared → Prop} (hW : isW (F.env.kindOf (Str.ofString x)) = true) (N : SNow C F m loc σ) (hQ : SP C F σ Qr Q) (c : CS C F m σ K D σ₂ mC acc) (q : Qr .next (setL x (.ref σ₂.H.length) loc) (σ₂.H ++ [.list acc])) :
    compPost C.M F.A E (some (assign (.Name (Str.ofString x) np) F.env)) (fun z_ s' => Q .next s') (.ref D) K (.ok .next) σ₂.s := by
  refine ob_AA (c.take) fun r₃ n₃ hk => ?_
  refine ob_EEEA (c.hC) fun oC es ep hC d => ?_
  have N₃ := N.step r₃ n₃
  show wpAny C.M F.A (assign (.Name (Str.ofString x) np) F.env (.ref D)) _ E (σ₂.new [D] (.list acc) σ₂.s).s
  refine wpAny_assign_Name (name_ok hW N₃ (.ref (adr_new c.r _ _ _)) fun m' σ₄ N₄ kp => ?_)
  have nc : ∀ v, oC.data ≠ .cell v := fun v e => by rw [d.1] at e; cases e
  have hC₄ := kp.h _ _ (hk oC hC) nc
  refine ⟨mC, ⟨oC, es, ep, hC₄.std.2.2, d⟩, fun h' hs' => ?_⟩
  have T : Turned C F m' σ₄ K { σ₄.s with heap := h', toks := σ₄.s.toks } := hC₄.turn N₄.r (dict_nf d.1) fun b y hb e => hs'.extBut b y hb e
  exact hQ .next .next _ m' (σ₄.at { σ₄.s with heap := h', toks := σ₄.s.toks }) (by show Qr .next _ σ₄.H; rw [kp.H]; exact q) .next (N₄.tick hC₄ nc T) ((n₃.t.trans kp.n).tick (X := NF F) c.fK T.but T.sm)
theorem swapped_none {es : List Expr} {k : Nat} {tp : Pos} {e : Expr} {env : Env} (h : notTup e = true) : swappedStores [.Tuple es k tp] e env = pure none := by
  cases e <;> first | rfl | exact absurd h Bool.false_ne_true
theorem comp_of {ns : Ns} {e : Expr} {r : RE} (h : mtE ns e r = true) (hc : plainVal e = false) : ∃ a b c d, e = .ListComp a b c d := by
  have := kinds (Z := fun e => plainVal e = true ∨ ∃ a b c d, e = .ListComp a b c d) h (fun z_ z_ z_ => .inl rfl) (fun z_ z_ z_ z_ => .inl rfl) (fun z_ z_ z_ => .inl rfl) (fun z_ z_ z_ z_ => .inl rfl) (fun z_ z_ z_ => .inl rfl) (fun a b c d => .inr ⟨a, b, c, d, rfl⟩)
    (fun z_ z_ z_ z_ => .inl rfl) (fun z_ z_ z_ z_ => .inl rfl) (fun z_ z_ z_ => .inl rfl) (fun z_ z_ z_ => .inl rfl) (fun z_ z_ z_ => .inl rfl) (fun z_ z_ => .inl rfl) (fun z_ z_ => .inl rfl) (fun z_ z_ z_ => .inl rfl)
  rcases this with h | h
  · rw [hc] at h; cases h
  · exact h
set_option tactic.hygienic true in
theorem st_asg {st : Stmt} {tg : RTg} {r : RE} (ok : ∀ r, Ok C U n r) (oks : ∀ rs, Oks C U n rs) : StOk C U n st (.asg tg r) := by
  intro F m loc σ E Qr Q hn hm N hw hQ
  (refine ob_EEEAAA (inv_asg hm) fun a e p o1_ he ht hp => ?_; subst o1_)
  cases tg with
  | names xs =>
    (refine ob_EEEA (inv_tgs ht) fun es k tp o1_ hw' => ?_; subst o1_)
    refine ob_A (an (show (plainVal e && notTup e) = true from hp)) fun h1 h2 => ?_
    refine Assign_Tuple (evalS (ok r) hn he N hw fun v u σ₁ q hv N₁ x₁ => ?_) (by unfold swapsWithSole; exact swaps_plain h1) (swapped_none h2)
    refine ob_EA (opt_of q) fun loc' hl q => ?_
    refine assign_ok ht N₁ hv hl fun m' σ' N' kp => ?_
    exact hQ .next .next loc' m' σ' (by rw [kp.H]; exact q) .next N' (x₁.t.trans kp.n)
  | name x =>
    (refine ob_EA (inv_tgn ht) fun np o1_ hW => ?_; subst o1_)
    have hW := nms_w hW
    have plain : swapsWith e (some (.Name (Str.ofString x) np)) p.line F.env = pure false → wpAny C.M F.A (exec (.Assign [.Name (Str.ofString x) np] e p) F.env) Q E σ.s := fun sw => by
      refine wpAny_Assign_Name (evalS (ok r) hn he N hw fun v u σ₁ q hv N₁ x₁ => ?_) sw
      refine name_ok hW N₁ hv fun m' σ' N' kp => ?_
      exact hQ .next .next _ m' σ' (by rw [kp.H]; exact q) .next N' (x₁.t.trans kp.n)
    cases hc : plainVal e with
    | true => exact plain (swaps_plain hc)
    | false =>
      (refine ob_EEEE (comp_of he hc) fun elt gs sc cpos o1_ => ?_; subst o1_)
      refine ob_E ((⟨_, rfl⟩ : ∃ b, swapsWith (.ListComp elt gs sc cpos) (some (.Name (Str.ofString x) np)) p.line F.env = pure b)) fun b sw => ?_
      cases b with
      | false => exact plain sw
      | true =>
        rw [exec_Assign_Name_used _ _ _ _ sw]
        clear plain
        refine wpAny_bind (wpAny_standAt (wpAny_bind ?_))
        cases r <;> first | exact absurd he Bool.false_ne_true | skip
        case comp1 elt' x' it' ifs' =>
          refine ob_EEEEEEAAAAA (inv_comp1 he) fun z_ xp it ifs z_ z_ e hsc hcm hit hel hif => ?_
          cases e
          have S := scOk_of hsc hcm
          refine ob_EA (clos_ok (sc := sc) (env := F.env) fun q hq e => N.e.cel q.1 (S.free q hq e)) fun cl hcl hclk => ?_
          show wpAny _ F.A (do let _ ← comprehension (.ListComp elt [⟨.Name (Str.ofString x') xp, it, ifs, 0⟩] sc cpos) sc F.env _ (newList []) false (eval it F.env) (some (assign (.Name (Str.ofString x) np) F.env))) _ _ σ.s
          refine wpAny_bind (wpAny_mono (wpAny_comprehension_free (use := some (assign (.Name (Str.ofString x) np) F.env)) (Q := fun z_ s' => Q .next s') rfl (foldless hit) hcl S.knd (fun q hq e => by rw [nodup_lookup S.nd q hq, e]) ?_) (fun z_ s' hq => wpAny_pure (wpAny_pure hq)) fun z_ z_ e => e)
          refine evalS (ok it') hn hit N hw fun v u σ₁ q hv N₁ x₁ => ?_
          exact comp1_ok (V := F.vm m loc) (Qf := fun vs H₂ => Qr .next (setL x (.ref H₂.length) loc) (H₂ ++ [RO.list vs])) (RR := fun acc K => compPost C.M F.A E (some (assign (.Name (Str.ofString x) np) F.env)) (fun z_ s' => Q .next s') acc K) (ok elt') (oks ifs') hn N₁.now S hclk hel hif hv q
            fun K D acc σ₂ mC q c => used_ok hW N₁ (hQ.after x₁.t) c q
theorem ss_nil {ss : List Stmt} : SsOk C U n ss [] := by
  intro F m loc σ E Qr Q hn hm N hw hQ
  rw [inv_snil hm]
  exact wpAny_pure (hQ _ _ loc m σ hw .next N (Nx.refl _))
set_option tactic.hygienic true in
theorem ss_cons {ss : List Stmt} {r : RT} {rs : List RT} (h1 : ∀ st, StOk C U n st r) (h2 : ∀ ss, SsOk C U n ss rs) : SsOk C U n ss (r :: rs) := by
  intro F m loc σ E Qr Q hn hm N hw hQ
  (refine ob_EEAA (inv_scons hm) fun st ss o1_ hm1 hm2 => ?_; subst o1_)
  show wpAny C.M F.A (exec st F.env >>= fun f => match f with | .next => execs ss F.env | f => pure f) Q E σ.s
  refine wpAny_bind (h1 st hn hm1 N hw fun fl flow loc₁ m₁ σ₁ q hf N₁ x => ?_)
  cases hf with
  | next => exact h2 _ hn hm2 N₁ q (hQ.after x)
  | brk => exact wpAny_pure (hQ _ _ loc₁ m₁ σ₁ q .brk N₁ x)
  | cont => exact wpAny_pure (hQ _ _ loc₁ m₁ σ₁ q .cont N₁ x)
  | ret hv => exact wpAny_pure (hQ _ _ loc₁ m₁ σ₁ q (.ret hv) N₁ x)
mutual
theorem okS (ok : ∀ r, Ok C U n r) (oks : ∀ rs, Oks C U n rs) : ∀ (r : RT) (st : Stmt), StOk C U n st r
  | .expr e, st => st_expr (ok e)
  | .ret none, st => st_ret0
  | .ret (some e), st => st_ret (ok e)
  | .asg t e, st => st_asg ok oks
  | .asgAttr o x e, st => st_asgAttr (ok e) (ok o)
  | .asgSub o i e, st => st_no (r := .asgSub o i e) fun z_ z_ z_ h => h
  | .ite t a b, st => st_ite (ok t) (okSs ok oks a) (okSs ok oks b)
  | .for_ t it b, st => st_for (ok it) (okSs ok oks b)
  | .while_ t body, st => st_no (r := .while_ t body) fun z_ z_ z_ h => h
  | .try_ body, st => st_no (r := .try_ body) fun z_ z_ z_ h => h
  | .delSub a b, st => st_no (r := .delSub a b) fun z_ z_ z_ h => h
  | .raise_, st => st_no (r := .raise_) fun z_ z_ z_ h => h
  | .brk, st => st_brk
  | .cont, st => st_cont
  | .pass, st => st_pass
theorem okSs (ok : ∀ r, Ok C U n r) (oks : ∀ rs, Oks C U n rs) : ∀ (rs : List RT) (ss : List Stmt), SsOk C U n ss rs
  | [], ss => ss_nil
  | r :: rs, ss => ss_cons (okS ok oks r) (okSs ok oks rs)
end
end
end Mine
end
namespace Mine
open PySem PySem.W PySem.Calls PyProof.Rows PySem.SeqAt
theorem lookup_zip_none {α β : Type} [BEq α] [LawfulBEq α] {x : α} : ∀ {xs : List α} {vs : List β}, x ∉ xs → (xs.zip vs).lookup x = none
  | [], _, _ => rfl
  | y :: xs, [], _ => rfl
  | y :: xs, v :: vs, h => by
    simp only [List.zip_cons_cons, List.lookup_cons]
    have : (x == y) = false := by
      cases hq : x == y with
      | false => rfl
      | true => exact absurd (eq_of_beq hq ▸ .head _) h
    rw [this]
    exact lookup_zip_none fun hm => h (.tail _ hm)
theorem lookup_zip_skip {α β : Type} [BEq α] [LawfulBEq α] {x : α} {l l' : List (α × β)} (h : l.lookup x = none) : (l ++ l').lookup x = l'.lookup x := by
  induction l with
  | nil => rfl
  | cons p l ih =>
    obtain ⟨y, v⟩ := p
    rw [List.cons_append, List.lookup_cons]
    rw [List.lookup_cons] at h
    cases hq : x == y with
    | true => rw [hq] at h; cases h
    | false => rw [hq] at h; exact ih h
def fillD (slots : List (Str × Value)) (q : Str × Value) : List (Str × Value) := if (slots.lookup q.1).isNone then slots ++ [q] else slots
theorem fill_new (qs : List (Str × Value)) : ∀ (slots : List (Str × Value)), (qs.map (·.1)).Nodup → (∀ q ∈ qs, slots.lookup q.1 = none) → qs.foldl fillD slots = slots ++ qs := by
  induction qs with
  | nil =>
    intro slots z_ z_
    simp
  | cons q qs ih_ =>
    intro slots hn h
    simp only [List.map_cons, List.nodup_cons] at hn
    rw [List.foldl_cons]
    have e : fillD slots q = slots ++ [q] := by unfold fillD; rw [h q (.head _)]; rfl
    rw [e, ih_ _ hn.2 fun q' hq' => ?_]
    · simp
    · rw [lookup_zip_skip (h q' (.tail _ hq'))]
      obtain ⟨y, v⟩ := q
      simp only [List.lookup_cons, List.lookup_nil]
      have : (q'.1 == y) = false := by
        cases hq : q'.1 == y with
        | false => rfl
        | true => exact absurd (List.mem_map.mpr ⟨q', hq', eq_of_beq hq⟩) hn.1
      rw [this]
theorem fill_old (qs : List (Str × Value)) : ∀ (slots : List (Str × Value)), (∀ q ∈ qs, (slots.lookup q.1).isSome = true) → qs.foldl fillD slots = slots := by
  induction qs with
  | nil =>
    intro z_ z_
    exact rfl
  | cons q qs ih_ =>
    intro slots h
    rw [List.foldl_cons]
    have e : fillD slots q = slots := by unfold fillD; rw [if_neg]; simp [Option.isNone_iff_eq_none, Option.isSome_iff_ne_none.mp (h q (.head _))]
    rw [e]; exact ih_ slots fun q' hq' => h q' (.tail _ hq')
theorem lookup_zip_at {α β : Type} [BEq α] [LawfulBEq α] : ∀ {xs : List α} {vs : List β} {j : Nat} {x : α} {v : β}, xs.Nodup → xs[j]? = some x → vs[j]? = some v → (xs.zip vs).lookup x = some v
  | [], _, _, _, _, _, h, _ => by simp at h
  | y :: xs, [], _, _, _, _, _, h => by simp at h
  | y :: xs, u :: vs, 0, x, v, _, h1, h2 => by
    simp at h1 h2; subst h1; subst h2
    simp [List.lookup_cons]
  | y :: xs, u :: vs, j + 1, x, v, hn, h1, h2 => by
    simp only [List.nodup_cons] at hn
    have hx : x ∈ xs := List.mem_of_getElem? (by simpa using h1)
    simp only [List.zip_cons_cons, List.lookup_cons]
    have : (x == y) = false := by
      cases hq : x == y with
      | false => rfl
      | true => exact absurd (eq_of_beq hq ▸ hx) hn.1
    rw [this]
    exact lookup_zip_at hn.2 (by simpa using h1) (by simpa using h2)
theorem filterMap_zip {ws : List Value} {slots : List (Str × Value)} : ∀ {xs : List Str}, xs.length = ws.length → (∀ (j : Nat) (x : Str) (v : Value), xs[j]? = some x → ws[j]? = some v → slots.lookup x = some v) → (xs.filterMap fun n => (slots.lookup n).map (n, ·)) = xs.zip ws := by
  induction ws with
  | nil =>
    intro xs hl _
    cases xs with
    | nil => rfl
    | cons x xs => simp at hl
  | cons v ws ih =>
    intro xs hl h
    cases xs with
    | nil => simp at hl
    | cons x xs =>
      rw [List.filterMap_cons, h 0 x v rfl rfl]
      simp only [Option.map_some, List.zip_cons_cons]
      rw [ih (by simpa using hl) fun j y u h1 h2 => h (j + 1) y u (by simpa using h1) (by simpa using h2)]
theorem forIn_fill {β : Type} (f : Str × Value → List (Str × Value) → Sem (ForInStep (List (Str × Value)))) (hf : ∀ q sl, f q sl = pure (.yield (fillD sl q))) : ∀ (qs slots : List (Str × Value)), forIn qs slots f = (pure (qs.foldl fillD slots) : Sem _)
  | [], slots => rfl
  | q :: qs, slots => by
    rw [List.forIn_cons, hf]
    exact forIn_fill (β := β) f hf qs (fillD slots q)
theorem zip_split {α β : Type} : ∀ (k : Nat) (xs : List α) (ds : List β), xs.zip ds = (xs.take k).zip (ds.take k) ++ (xs.drop k).zip (ds.drop k)
  | 0, xs, ds => by simp
  | k + 1, [], ds => by simp
  | k + 1, x :: xs, [] => by simp
  | k + 1, x :: xs, d :: ds => by simp [← zip_split k xs ds]
theorem zip_short {α β : Type} (xs : List α) (vs : List β) : xs.zip vs = (xs.take vs.length).zip vs := by
  have := zip_split vs.length xs vs
  simpa using this
theorem ar1 {j x d v : Nat} (h : j < min (x - d) x) (h2 : x ≤ v + d) : j < v := Nat.lt_of_lt_of_le h (Nat.le_trans (Nat.min_le_left _ _) (Nat.sub_le_of_le_add h2))
theorem ar2 {x d v : Nat} (h : x ≤ v + d) : x - d + (v - (x - d)) = v := Nat.add_sub_of_le (Nat.sub_le_of_le_add h)
theorem ar3 {j x d v : Nat} (h : j < min (v - (x - d)) (x - (x - d))) : x - d + j < v := Nat.add_lt_of_lt_sub' (Nat.lt_of_lt_of_le h (Nat.min_le_left _ _))
theorem ar4 {x d v : Nat} (h1 : v ≤ x) (h3 : d ≤ x) : d - (x - v) = v - (x - d) := by rw [Nat.sub_sub_right d h1, Nat.sub_sub_right v h3, Nat.add_comm]
theorem ar7 {x d v : Nat} (h2 : x ≤ v + d) : d - (d - (x - v)) = x - v := Nat.sub_sub_self (Nat.sub_le_of_le_add (Nat.add_comm v d ▸ h2))
theorem ar5 {x d v : Nat} (h1 : v ≤ x) (h2 : x ≤ v + d) (h3 : d ≤ x) : x - v ≤ d - (v - (x - d)) := by rw [← ar4 h1 h3, ar7 h2]; exact Nat.le_refl _
theorem ar6 {x d v : Nat} (h1 : v ≤ x) (h2 : x ≤ v + d) : x = v + (d - (d - (x - v))) := by rw [ar7 h2, Nat.add_sub_of_le h1]
section
variable {xs : List Str} {vals ds : List Value}
theorem none_left (hnd : xs.Nodup) (hl2 : xs.length ≤ vals.length + ds.length) : ((xs.take (xs.length - ds.length)).filter fun n => ((xs.zip vals).lookup n).isNone) = [] := by
  rw [List.filter_eq_nil_iff]
  intro x hx'
  obtain ⟨j, hj, e⟩ := List.mem_iff_getElem.mp hx'
  rw [List.length_take] at hj
  have h1 : xs[j]? = some x := by rw [← e, List.getElem_take, List.getElem?_eq_getElem]
  have hjv : j < vals.length := ar1 hj hl2
  rw [lookup_zip_at (vs := vals) hnd h1 (List.getElem?_eq_getElem hjv)]
  simp
theorem fills_ok (hnd : xs.Nodup) (hl : vals.length ≤ xs.length) (hl2 : xs.length ≤ vals.length + ds.length) (hl3 : ds.length ≤ xs.length) :
    (xs.filterMap fun n => ((((xs.drop (xs.length - ds.length)).zip ds).foldl fillD (xs.zip vals)).lookup n).map (n, ·)) = xs.zip (vals ++ ds.drop (ds.length - (xs.length - vals.length))) := by
  have look : ∀ (j : Nat) (x : Str) (v : Value), xs[j]? = some x → vals[j]? = some v → (xs.zip vals).lookup x = some v := fun j x v h1 h2 => lookup_zip_at hnd h1 h2
  have split1 : (xs.drop (xs.length - ds.length)).zip ds = ((xs.drop (xs.length - ds.length)).take (vals.length - (xs.length - ds.length))).zip (ds.take (vals.length - (xs.length - ds.length))) ++ (xs.drop vals.length).zip (ds.drop (vals.length - (xs.length - ds.length))) := by
    have := zip_split (vals.length - (xs.length - ds.length)) (xs.drop (xs.length - ds.length)) ds
    rw [List.drop_drop, show xs.length - ds.length + (vals.length - (xs.length - ds.length)) = vals.length from ar2 hl2] at this
    exact this
  have f1 : (((xs.drop (xs.length - ds.length)).take (vals.length - (xs.length - ds.length))).zip (ds.take (vals.length - (xs.length - ds.length)))).foldl fillD (xs.zip vals) = xs.zip vals := by
    apply fill_old
    intro q hq
    have hq1 := List.of_mem_zip (a := q.1) (b := q.2) hq
    obtain ⟨j, hj, e⟩ := List.mem_iff_getElem.mp hq1.1
    rw [List.length_take, List.length_drop] at hj
    have h1 : xs[xs.length - ds.length + j]? = some q.1 := by
      rw [← e, List.getElem_take, List.getElem_drop, List.getElem?_eq_getElem]
    have hjv : xs.length - ds.length + j < vals.length := ar3 hj
    rw [look _ _ _ h1 (List.getElem?_eq_getElem hjv)]
    rfl
  have f2 : ((xs.drop vals.length).zip (ds.drop (vals.length - (xs.length - ds.length)))).foldl fillD (xs.zip vals) = xs.zip vals ++ (xs.drop vals.length).zip (ds.drop (vals.length - (xs.length - ds.length))) := by
    apply fill_new
    · have : (((xs.drop vals.length).zip (ds.drop (vals.length - (xs.length - ds.length)))).map (·.1)) = xs.drop vals.length := by
        rw [List.map_fst_zip]
        rw [List.length_drop, List.length_drop]; exact ar5 hl hl2 hl3
      rw [this]
      exact hnd.sublist (List.drop_sublist _ _)
    · intro q hq
      have hq1 := List.of_mem_zip (a := q.1) (b := q.2) hq
      have hne : q.1 ∉ xs.take vals.length := fun hm => by
        have hn2 : (xs.take vals.length ++ xs.drop vals.length).Nodup := by rw [List.take_append_drop]; exact hnd
        exact (List.nodup_append.mp hn2).2.2 _ hm _ hq1.1 rfl
      rw [zip_short]
      exact lookup_zip_none hne
  rw [split1, List.foldl_append, f1, f2]
  have e1 : ds.length - (xs.length - vals.length) = vals.length - (xs.length - ds.length) := ar4 hl hl3
  have e2 : xs.zip vals ++ (xs.drop vals.length).zip (ds.drop (vals.length - (xs.length - ds.length))) = xs.zip (vals ++ ds.drop (vals.length - (xs.length - ds.length))) := by
    have := zip_split vals.length xs (vals ++ ds.drop (vals.length - (xs.length - ds.length)))
    rw [this, List.take_left' rfl, List.drop_left' rfl, ← zip_short]
  rw [filterMap_zip (ws := vals ++ ds.drop (ds.length - (xs.length - vals.length)))]
  · rw [List.length_append, List.length_drop]; exact ar6 hl hl2
  · intro j x v h1 h2
    rw [e2, ← e1]
    exact lookup_zip_at hnd h1 h2
end
theorem binds_ok {s : Shared} {fd : FuncData} {vals ds : List Value} (hp : fd.params.posonlyargs = []) (hva : fd.params.vararg = none) (hko : fd.params.kwonlyargs = []) (hkw : fd.params.kwarg = none)
    (hnd : (fd.params.args.map (·.arg)).Nodup) (hl : vals.length ≤ (fd.params.args.map (·.arg)).length) (hl2 : (fd.params.args.map (·.arg)).length ≤ vals.length + ds.length) (hl3 : ds.length ≤ (fd.params.args.map (·.arg)).length)
    (hd : ∀ (M : Model) (A : Around) (E : Value → Shared → Prop) (Q : Option (Array Value) → Shared → Prop), (∀ o, (o.getD #[]).toList = ds → Q o s) → wpAny M A (seqItems? fd.defaults) Q E s) :
    BindsTo s fd ⟨vals, []⟩ ((fd.params.args.map (·.arg)).zip (vals ++ ds.drop (ds.length - ((fd.params.args.map (·.arg)).length - vals.length)))) := by
  intro M A E Q hQ
  unfold bindArgs
  simp only [hp, hva, hko, hkw, List.map_nil, List.nil_append, List.append_nil, List.forIn_nil, pure_bind]
  refine wpAny_bind (hd _ _ _ _ fun o ho => ?_)
  simp only [ho]
  generalize hx : fd.params.args.map (·.arg) = xs at *
  have c1 : ¬ ((decide (vals.length > xs.length) && (none : Option Arg).isNone) = true) := fun h => absurd (of_decide_eq_true (an h).1) (Nat.not_lt.mpr hl)
  rw [if_neg c1]
  rw [Nat.sub_eq_zero_of_le hl3, List.drop_zero, none_left hnd hl2]
  simp only [List.isEmpty_nil, Bool.not_true, Bool.false_eq_true, if_false]
  rw [forIn_fill (β := Unit) _ (fun q sl => by unfold fillD; cases q; dsimp only; split <;> rfl)]
  show wpAny M A (pure _) Q E s
  refine wpAny_pure ?_
  rw [fills_ok hnd hl hl2 hl3]
  exact hQ
theorem bindL_out {kindOf : Str → Option NameKind} {x : Str} : ∀ (binds : List (Str × Value)) (m : Str → Option Value), x ∉ binds.map (·.1) → bindL kindOf binds m x = m x
  | [], m, _ => rfl
  | (y, v) :: r, m, h => by
    simp only [List.map_cons, List.mem_cons, not_or] at h
    unfold bindL
    rw [bindL_out r _ h.2]
    split
    · show (if x = y then some v else m x) = m x
      rw [if_neg h.1]
    · rfl
theorem bindL_at {kindOf : Str → Option NameKind} {x : Str} {v : Value} : ∀ (binds : List (Str × Value)) (m : Str → Option Value), (binds.map (·.1)).Nodup → (x, v) ∈ binds → kindOf x = some .local → bindL kindOf binds m x = some v
  | [], m, _, h, _ => by cases h
  | (y, u) :: r, m, hn, h, hk => by
    simp only [List.map_cons, List.nodup_cons] at hn
    unfold bindL
    rcases List.mem_cons.mp h with e | h
    · cases e
      rw [bindL_out r _ hn.1, if_pos hk, if_pos rfl]
    · exact bindL_at r _ hn.2 h hk
theorem bindC_out {kindOf : Str → Option NameKind} {x : Str} : ∀ (binds : List (Str × Value)) (m : Str → Option Value), x ∉ binds.map (·.1) → bindC kindOf binds m x = m x
  | [], m, _ => rfl
  | (y, v) :: r, m, h => by
    simp only [List.map_cons, List.mem_cons, not_or] at h
    unfold bindC
    rw [bindC_out r _ h.2]
    split
    · rfl
    · show (if x = y then some v else m x) = m x
      rw [if_neg h.1]
theorem bindC_at {kindOf : Str → Option NameKind} {x : Str} {v : Value} : ∀ (binds : List (Str × Value)) (m : Str → Option Value), (binds.map (·.1)).Nodup → (x, v) ∈ binds → kindOf x = some .cell → bindC kindOf binds m x = some v
  | [], m, _, h, _ => by cases h
  | (y, u) :: r, m, hn, h, hk => by
    simp only [List.map_cons, List.nodup_cons] at hn
    unfold bindC
    rcases List.mem_cons.mp h with e | h
    · cases e
      have : ¬ kindOf x = some .local := by rw [hk]; intro e; cases e
      rw [bindC_out r _ hn.1, if_neg this, if_pos rfl]
    · exact bindC_at r _ hn.2 h hk
theorem cellsFrom_ge : ∀ (names : Ns) (k : Nat) (acc : List (Str × Addr)), (∀ q ∈ acc, q.2 < k) → (acc.map (·.2)).Nodup → (((cellsFrom k names acc).map (·.2)).Nodup ∧ ∀ q ∈ cellsFrom k names acc, q ∈ acc ∨ k ≤ q.2)
  | [], k, acc, h, hn => ⟨hn, fun q hq => .inl hq⟩
  | (x, kd) :: r, k, acc, h, hn => by
    unfold cellsFrom
    split
    · have := cellsFrom_ge r (k + 1) ((x, k) :: acc) (fun q hq => by
        rcases List.mem_cons.mp hq with rfl | hq
        · exact Nat.lt_succ_self _
        · exact Nat.lt_succ_of_lt (h q hq)) (by
        simp only [List.map_cons, List.nodup_cons]
        refine ⟨fun hm => ?_, hn⟩
        refine ob_EA (List.mem_map.mp hm) fun q hq e => ?_
        exact Nat.lt_irrefl _ (e ▸ h q hq))
      refine ⟨this.1, fun q hq => ?_⟩
      rcases this.2 q hq with h1 | h1
      · rcases List.mem_cons.mp h1 with rfl | h1
        · exact .inr (Nat.le_refl _)
        · exact .inl h1
      · exact .inr (Nat.le_of_succ_le h1)
    · exact cellsFrom_ge r k acc h hn
set_option tactic.hygienic true in
theorem cellsFrom_ins : ∀ (names : Ns) (k : Nat) (acc : List (Str × Addr)), (cellsFrom k names acc).map (·.1) = ((names.filter fun q => q.2 == .cell).map (·.1)).reverse ++ acc.map (·.1)
  | [], k, acc => by simp [cellsFrom]
  | (x, kd) :: r, k, acc => by
    unfold cellsFrom
    split
    · rename_i h
      rw [cellsFrom_ins r]
      simp [h]
    · rename_i h
      rw [cellsFrom_ins r]
      simp [h]
theorem cellsAre_fst {cm : Str → Option Value} {cs : List (Str × Addr)} {cells : List (Addr × Obj)} (h : CellsAre cm cs cells) : cells.map (·.1) = cs.map (·.2) := by
  induction h with
  | nil => rfl
  | cons _ _ ih => simp [ih]
theorem cellsAre_at {cm : Str → Option Value} {cs : List (Str × Addr)} {cells : List (Addr × Obj)} (h : CellsAre cm cs cells) {x : Str} {c : Addr} (hm : (x, c) ∈ cs) : ∃ o, (c, o) ∈ cells ∧ o.data = .cell (cm x) := by
  induction h with
  | nil => cases hm
  | cons hd _ ih =>
    rcases List.mem_cons.mp hm with e | hm
    · cases e; exact ⟨_, .head _, hd⟩
    · refine ob_EA (ih hm) fun o h1 h2 => ?_; exact ⟨o, .tail _ h1, h2⟩
theorem lookup_of_nodup {α β : Type} [BEq α] [LawfulBEq α] {x : α} {v : β} : ∀ {l : List (α × β)}, (l.map (·.1)).Nodup → (x, v) ∈ l → l.lookup x = some v
  | [], _, h => by cases h
  | (y, u) :: r, hn, h => by
    simp only [List.map_cons, List.nodup_cons] at hn
    rw [List.lookup_cons]
    rcases List.mem_cons.mp h with e | h
    · cases e; simp
    · have : (x == y) = false := by
        cases hq : x == y with
        | false => rfl
        | true => exact absurd (List.mem_map.mpr ⟨_, h, (eq_of_beq hq)⟩) hn.1
      rw [this]; exact lookup_of_nodup hn.2 h
theorem snd_inj {α β : Type} {x y : α} {v : β} {l : List (α × β)} (hn : (l.map (·.2)).Nodup) (h1 : (x, v) ∈ l) (h2 : (y, v) ∈ l) : x = y := by
  induction l with
  | nil => cases h1
  | cons q r ih =>
    obtain ⟨z, u⟩ := q
    simp only [List.map_cons, List.nodup_cons] at hn
    rcases List.mem_cons.mp h1 with e1 | k1 <;> rcases List.mem_cons.mp h2 with e2 | k2
    · cases e1; cases e2; rfl
    · cases e1; exact absurd (List.mem_map.mpr ⟨_, k2, rfl⟩) hn.1
    · cases e2; exact absurd (List.mem_map.mpr ⟨_, k1, rfl⟩) hn.1
    · exact ih hn.2 k1 k2
theorem nodup_rev {α : Type} : ∀ {l : List α}, l.Nodup → l.reverse.Nodup := fun {l} h => by
  unfold List.Nodup at *
  rw [List.pairwise_reverse]
  exact h.imp fun h e => h e.symm
theorem nodup_names {l : List String} : l.Nodup → (l.map Str.ofString).Nodup := by
  induction l with
  | nil =>
    intro z_
    exact .nil
  | cons x l ih_ =>
    intro h
    simp only [List.nodup_cons, List.map_cons] at h ⊢
    refine ⟨fun hm => ?_, ih_ h.2⟩
    refine ob_EA (List.mem_map.mp hm) fun y hy e => ?_
    exact h.1 (ofString_inj e ▸ hy)
theorem zip_lookup {α β : Type} {x : String} {v : β} : ∀ {xs : List String} {vs : List β}, (xs.zip vs).lookup x = some v → ∃ j : Nat, xs[j]? = some x ∧ vs[j]? = some v
  | [], _, h => by simp at h
  | y :: xs, [], h => by simp at h
  | y :: xs, u :: vs, h => by
    simp only [List.zip_cons_cons, List.lookup_cons] at h
    cases hq : x == y with
    | true => rw [hq] at h; cases h; exact ⟨0, by rw [eq_of_beq hq]; rfl, rfl⟩
    | false =>
      rw [hq] at h
      refine ob_EA (zip_lookup (α := α) h) fun j h1 h2 => ?_
      exact ⟨j + 1, by simpa using h1, by simpa using h2⟩
theorem zip_mem {α β : Type} {x : α} {v : β} {xs : List α} {vs : List β} {j : Nat} (h1 : xs[j]? = some x) (h2 : vs[j]? = some v) : (x, v) ∈ xs.zip vs := by
  have : (xs.zip vs)[j]? = some (x, v) := by
    rw [List.getElem?_zip_eq_some]; exact ⟨h1, h2⟩
  exact List.mem_of_getElem? this
end Mine
section
set_option genSizeOfSpec false
set_option genInjectivity false
set_option genSizeOf false
namespace Mine
open PySem PySem.W PySem.Calls PyProof.Rows PySem.SeqAt
theorem VsRel.drop {C : Cx} {σ : Sg} (k : Nat) : ∀ {us : List RV} {vs : List Value}, VsRel C σ us vs → VsRel C σ (us.drop k) (vs.drop k) := by
  induction k with
  | zero =>
    intro z_ z_ h
    exact h
  | succ k ih_ =>
    intro us vs h
    cases us with
    | nil => rw [h.nil_inv]; exact .nil
    | cons u us =>
      (refine ob_EEAA (h.cons_inv) fun y ys o1_ z_ r => ?_; subst o1_)
      exact ih_ r
structure FP where
  fo : Obj
  name : Str
  params : Arguments
  scope : Scope
  dV : Value
  kV : Value
  doc : Value
  pm : Value
  an : Option Addr
  cdv : Value
  ct : Value
  b : List Stmt
abbrev FP.fn (p : FP) (qual : Str) : FuncData := fnX p.name qual p.params p.b p.scope [] p.dV p.kV p.doc p.pm p.an p.cdv p.ct
noncomputable def mtDf (K : Frag) (dV : Value) (dflts : List RV) : Bool := match dV with
      | .none => dflts.isEmpty
      | .ref t => (match K.lookup t with
        | some ⟨.type c, none, .seq vs _, _⟩ => c == "tuple" && decide (vs.toList.length = dflts.length) && (vs.toList.zip dflts).all fun p => mtV K 4 p.1 p.2
        | _ => false)
      | _ => false
structure FnIs (K : Frag) (T : List Nat) (f : Addr) (qual : Str) (d : RFn) (p : FP) : Prop where
  at_ : K.lookup f = some p.fo
  data : p.fo.data = .func (p.fn qual)
  cod : codeIn K p.cdv qual = true
  gen : p.scope.isGenerator = false
  cor : p.scope.isCoroutine = false
  knd : p.scope.kind = .function
  nd : (p.scope.names.map (·.1)).Nodup
  free : ∀ x, p.scope.names.lookup x ≠ some .free
  po : p.params.posonlyargs = []
  va : p.params.vararg = none
  ko : p.params.kwonlyargs = []
  kw : p.params.kwarg = none
  par : p.params.args.map (·.arg) = d.params.map Str.ofString
  wr : ∀ q ∈ p.params.args, isW (p.scope.names.lookup q.arg) = true
  pn : d.params.Nodup
  dl : d.dflts.length ≤ d.params.length
  df : mtDf K p.dV d.dflts = true
  body : mtSs (tabMk d.tab ++ p.scope.names) p.b d.body = true
  gx : ∀ q ∈ p.scope.names, q.2 ≠ .globalExplicit
  tb : ∀ t, d.tab = some t → ∃ P, T[t]? = some P ∧ codeHdB K p.cdv P = true
structure FnC (K : Frag) (T : List Nat) (fd : FuncData) (qual : Str) (d : RFn) : Prop where
  gl : (fd.globals == mainGlobals) = true
  cl : (fd.closure.isEmpty) = true
  bl : (fd.builtins == builtinsNs) = true
  qn : (fd.qualname == qual) = true
  cd : (codeIn K fd.code fd.qualname) = true
  gen : (!fd.scope.isGenerator) = true
  cor : (!fd.scope.isCoroutine) = true
  kd : (fd.scope.kind == .function) = true
  nn : (decide ((fd.scope.names.map (·.1)).Nodup)) = true
  free : (fd.scope.names.all (fun q => q.2 != .free)) = true
  gx : (fd.scope.names.all (fun q => q.2 != .globalExplicit)) = true
  tab : (tabOkB K T fd.code d.tab) = true
  po : (fd.params.posonlyargs.isEmpty) = true
  va : (fd.params.vararg.isNone) = true
  ko : (fd.params.kwonlyargs.isEmpty) = true
  kw : (fd.params.kwarg.isNone) = true
  par : (fd.params.args.map (·.arg) == d.params.map Str.ofString) = true
  pw : (fd.params.args.all (fun a => isW (fd.scope.names.lookup a.arg))) = true
  pn : (decide ((d.params).Nodup)) = true
  dl : (decide (d.dflts.length ≤ d.params.length)) = true
  df : (mtDf K fd.defaults d.dflts) = true
  kd2 : ((match fd.kwdefaults with | .none => true | _ => false)) = true
  body : ((match fd.body with | .stmts b => mtSs (tabMk d.tab ++ fd.scope.names) b d.body | .expr _ => false)) = true
theorem fnC_of {K : Frag} {T : List Nat} {fd : FuncData} {qual : Str} {d : RFn} (h : (fd.globals == mainGlobals && fd.closure.isEmpty && fd.builtins == builtinsNs && fd.qualname == qual && codeIn K fd.code fd.qualname && !fd.scope.isGenerator && !fd.scope.isCoroutine && fd.scope.kind == .function && decide ((fd.scope.names.map (·.1)).Nodup) && fd.scope.names.all (fun q => q.2 != .free) && fd.scope.names.all (fun q => q.2 != .globalExplicit) && tabOkB K T fd.code d.tab && fd.params.posonlyargs.isEmpty && fd.params.vararg.isNone && fd.params.kwonlyargs.isEmpty && fd.params.kwarg.isNone && fd.params.args.map (·.arg) == d.params.map Str.ofString && fd.params.args.all (fun a => isW (fd.scope.names.lookup a.arg)) && decide ((d.params).Nodup) && decide (d.dflts.length ≤ d.params.length) && mtDf K fd.defaults d.dflts && (match fd.kwdefaults with | .none => true | _ => false) && (match fd.body with | .stmts b => mtSs (tabMk d.tab ++ fd.scope.names) b d.body | .expr _ => false)) = true) : FnC K T fd qual d := ⟨(an (an (an (an (an (an (an (an (an (an (an (an (an (an (an (an (an (an (an (an (an (an h).1).1).1).1).1).1).1).1).1).1).1).1).1).1).1).1).1).1).1).1).1).1, (an (an (an (an (an (an (an (an (an (an (an (an (an (an (an (an (an (an (an (an (an (an h).1).1).1).1).1).1).1).1).1).1).1).1).1).1).1).1).1).1).1).1).1).2, (an (an (an (an (an (an (an (an (an (an (an (an (an (an (an (an (an (an (an (an (an h).1).1).1).1).1).1).1).1).1).1).1).1).1).1).1).1).1).1).1).1).2, (an (an (an (an (an (an (an (an (an (an (an (an (an (an (an (an (an (an (an (an h).1).1).1).1).1).1).1).1).1).1).1).1).1).1).1).1).1).1).1).2, (an (an (an (an (an (an (an (an (an (an (an (an (an (an (an (an (an (an (an h).1).1).1).1).1).1).1).1).1).1).1).1).1).1).1).1).1).1).2, (an (an (an (an (an (an (an (an (an (an (an (an (an (an (an (an (an (an h).1).1).1).1).1).1).1).1).1).1).1).1).1).1).1).1).1).2, (an (an (an (an (an (an (an (an (an (an (an (an (an (an (an (an (an h).1).1).1).1).1).1).1).1).1).1).1).1).1).1).1).1).2, (an (an (an (an (an (an (an (an (an (an (an (an (an (an (an (an h).1).1).1).1).1).1).1).1).1).1).1).1).1).1).1).2, (an (an (an (an (an (an (an (an (an (an (an (an (an (an (an h).1).1).1).1).1).1).1).1).1).1).1).1).1).1).2, (an (an (an (an (an (an (an (an (an (an (an (an (an (an h).1).1).1).1).1).1).1).1).1).1).1).1).1).2, (an (an (an (an (an (an (an (an (an (an (an (an (an h).1).1).1).1).1).1).1).1).1).1).1).1).2, (an (an (an (an (an (an (an (an (an (an (an (an h).1).1).1).1).1).1).1).1).1).1).1).2, (an (an (an (an (an (an (an (an (an (an (an h).1).1).1).1).1).1).1).1).1).1).2, (an (an (an (an (an (an (an (an (an (an h).1).1).1).1).1).1).1).1).1).2, (an (an (an (an (an (an (an (an (an h).1).1).1).1).1).1).1).1).2, (an (an (an (an (an (an (an (an h).1).1).1).1).1).1).1).2, (an (an (an (an (an (an (an h).1).1).1).1).1).1).2, (an (an (an (an (an (an h).1).1).1).1).1).2, (an (an (an (an (an h).1).1).1).1).2, (an (an (an (an h).1).1).1).2, (an (an (an h).1).1).2, (an (an h).1).2, (an h).2⟩
theorem fn_of {K : Frag} {T : List Nat} {f : Addr} {qual : Str} {d : RFn} (h : mtFn K T f qual d = true) : ∃ p, FnIs K T f qual d p := by
  refine ob_EEEE (mtFn_func h) fun c dd fd sl e => ?_
  unfold mtFn at h
  rw [e] at h
  have c := fnC_of h
  clear h
  obtain ⟨nm, qn, ps, bd, sc, gl, cl, dv, kv, doc, pm, an', cdv, ct, bl⟩ := fd
  have e1 : gl = mainGlobals := eq_of_beq c.gl
  have e2 : cl = [] := List.isEmpty_iff.mp c.cl
  have e3 : bl = builtinsNs := eq_of_beq c.bl
  have e4 : qn = qual := eq_of_beq c.qn
  subst e1; subst e2; subst e3; subst e4
  cases bd with
  | expr _ => exact absurd c.body Bool.false_ne_true
  | stmts b =>
    refine ⟨⟨_, nm, ps, sc, dv, kv, doc, pm, an', cdv, ct, b⟩, e, rfl, c.cd, Bool.not_eq_true' _ |>.mp c.gen, Bool.not_eq_true' _ |>.mp c.cor, eq_of_beq c.kd, of_decide_eq_true c.nn, fun x q => absurd (List.all_eq_true.mp c.free (x, .free) (lookup_mem q)) Bool.false_ne_true, List.isEmpty_iff.mp c.po, Option.isNone_iff_eq_none.mp c.va, List.isEmpty_iff.mp c.ko, Option.isNone_iff_eq_none.mp c.kw,
      eq_of_beq c.par, fun q hq => List.all_eq_true.mp c.pw q hq, of_decide_eq_true c.pn, of_decide_eq_true c.dl, c.df, c.body, fun q hq e => ?_, fun t e => ?_⟩
    · have := List.all_eq_true.mp c.gx q hq
      rw [e] at this
      exact absurd this Bool.false_ne_true
    · have htab := c.tab
      rw [e] at htab
      have htab : (match T[t]? with | some P => codeHdB K cdv P | none => false) = true := htab
      cases h1 : T[t]? with
      | none => rw [h1] at htab; cases htab
      | some P => rw [h1] at htab; exact ⟨P, rfl, htab⟩
section
variable {C : Cx} {F : Fm} {m : Str → Option Value} {σ σ₁ : Sg} {n : Nat} {d : RFn} {f : Addr} {qual : Str} {args : List RV} {vals ws : List Value} {p : FP} {s : Shared}
set_option tactic.hygienic true in
theorem df_ok (I : FnIs C.K C.G.tabs f qual d p) (X : C.K.In s.heap) : ∃ ds : List Value, (∀ σ, VsRel C σ d.dflts ds) ∧ ds.length = d.dflts.length ∧
    ∀ (M : Model) (A : Around) (E : Value → Shared → Prop) (Q : Option (Array Value) → Shared → Prop), (∀ o, (o.getD #[]).toList = ds → Q o s) → wpAny M A (seqItems? p.dV) Q E s := by
  have h := I.df
  unfold mtDf at h
  split at h
  · rename_i hdn
    rw [List.isEmpty_iff.mp h, hdn]
    exact ⟨[], fun z_ => .nil, rfl, fun M A E Q hq => wpAny_of_eq (show seqItems? Value.none = pure none from rfl) (hq none rfl)⟩
  · rename_i t ht
    split at h
    · rename_i cc vs' k' sl' hKt
      refine ob_A (an h) fun h h2 => ?_
      have hl := of_decide_eq_true (an h).2
      refine ⟨vs'.toList, fun σ => VsRel_zip (fun u v => VRel_of_mtV 4) _ _ hl h2, hl, fun M A E Q hq => ?_⟩
      rw [ht]
      exact wpAny_seqItems (X _ _ hKt) rfl (hq _ rfl)
    · exact absurd h Bool.false_ne_true
  · exact absurd h Bool.false_ne_true
abbrev FP.binds (p : FP) (ws : List Value) : List (Str × Value) := (p.params.args.map (·.arg)).zip ws
theorem binds_fst (I : FnIs C.K C.G.tabs f qual d p) (hl : ws.length = d.params.length) : (p.binds ws).map (·.1) = p.params.args.map (·.arg) := by
  rw [List.map_fst_zip]
  rw [I.par, List.length_map, hl]; exact Nat.le_refl _
theorem names_nd (I : FnIs C.K C.G.tabs f qual d p) : (p.params.args.map (·.arg)).Nodup := by rw [I.par]; exact nodup_names I.pn
theorem binds_nd (I : FnIs C.K C.G.tabs f qual d p) (hl : ws.length = d.params.length) : ((p.binds ws).map (·.1)).Nodup := by rw [binds_fst I hl]; exact names_nd I
theorem binds_kind (I : FnIs C.K C.G.tabs f qual d p) (hl : ws.length = d.params.length) {x : Str × Value} (hx : x ∈ p.binds ws) : isW (p.scope.names.lookup x.1) = true := by
  have : x.1 ∈ p.params.args.map (·.arg) := binds_fst I hl ▸ List.mem_map_of_mem hx
  refine ob_EA (List.mem_map.mp this) fun q hq e => ?_
  rw [← e]
  exact I.wr q hq
theorem cell_name {sc : Scope} {x : Str} (hx : sc.names.lookup x = some .cell) (k : Nat) : ∃ c, (cellsFrom k sc.names []).lookup x = some c := Option.isSome_iff_exists.mp (cellsFrom_some sc.names k [] (.inl hx))
theorem cell_nd (I : FnIs C.K C.G.tabs f qual d p) (k : Nat) : ((cellsFrom k p.scope.names []).map (·.1)).Nodup := by
  rw [cellsFrom_ins, List.map_nil, List.append_nil]
  exact nodup_rev (I.nd.sublist (List.Sublist.map _ List.filter_sublist))
theorem isW_of {o : Option NameKind} (h : isW o = true) : o = some .local ∨ o = some .cell := by
  rcases Bool.or_eq_true _ _ |>.mp h with h | h
  · exact .inl (eq_of_beq h)
  · exact .inr (eq_of_beq h)
theorem binds_kinds (I : FnIs C.K C.G.tabs f qual d p) (hl : ws.length = d.params.length) : ∀ n, ∀ x ∈ p.binds ws, p.scope.names.lookup x.1 = some .local ∨ (p.scope.names.lookup x.1 = some .cell ∧ ((cellsFrom n p.scope.names []).lookup x.1).isSome = true) := fun n x hx => by
  rcases isW_of (binds_kind I hl hx) with h | h
  · exact .inl h
  · refine ob_E (cell_name h n) fun c hc => ?_
    exact .inr ⟨h, by rw [hc]; rfl⟩
theorem call_binds {loc : Loc} (I : FnIs C.K C.G.tabs f qual d p) (X : C.K.In s.heap) (hb : bindR d.params d.dflts args = some loc) (hv : VsRel C σ args vals) :
    ∃ all ws, loc = d.params.zip all ∧ VsRel C σ all ws ∧ ws.length = d.params.length ∧ BindsTo s (p.fn qual) ⟨vals, []⟩ (p.binds ws) := by
  refine ob_A (if_of (show (if args.length ≤ d.params.length ∧ d.params.length ≤ args.length + d.dflts.length then some (d.params.zip (args ++ d.dflts.drop (d.dflts.length - (d.params.length - args.length)))) else none) = some loc from hb)) fun hlen e => ?_
  refine ob_EAA (df_ok (s := s) I X) fun ds hds hdl' hrd => ?_
  have hargs := hv.length
  have hnames : (p.params.args.map (·.arg)).length = d.params.length := by rw [I.par, List.length_map]
  have hall := hv.append ((hds σ).drop (d.dflts.length - (d.params.length - args.length)))
  have hbinds := binds_ok (s := s) (fd := p.fn qual) (vals := vals) (ds := ds) I.po I.va I.ko I.kw (names_nd I) (by rw [show (List.map (·.arg) (p.fn qual).params.args).length = _ from hnames, ← hargs]; exact hlen.1) (by rw [show (List.map (·.arg) (p.fn qual).params.args).length = _ from hnames, hdl', ← hargs]; exact hlen.2) (by rw [show (List.map (·.arg) (p.fn qual).params.args).length = _ from hnames, hdl']; exact I.dl) hrd
  rw [show (List.map (·.arg) (p.fn qual).params.args).length = _ from hnames, hdl', ← hargs] at hbinds
  refine ⟨_, _, e.symm, hall, ?_, hbinds⟩
  rw [List.length_append, List.length_drop, hdl', ← hargs]; have := hlen.1; have := hlen.2; omega
theorem tabName_inj {t t' : Nat} (h : tabName t = tabName t') : t = t' := by
  have h : (⟨#[46, t]⟩ : Str) = ⟨#[46, t']⟩ := h
  injection h with h
  injection h with h
  injection h with _ h
  injection h
theorem tm_look {tm : Option Nat} {names : Ns} {x : Str} {k : NameKind} (h : (tabMk tm ++ names).lookup x = some k) : (∃ t, tm = some t ∧ x = tabName t ∧ k = .globalExplicit) ∨ names.lookup x = some k := by
  cases tm with
  | none => exact .inr h
  | some t =>
    have h : ((tabName t, NameKind.globalExplicit) :: names).lookup x = some k := h
    rw [List.lookup_cons] at h
    cases hx : x == tabName t with
    | true => rw [hx] at h; exact .inl ⟨t, rfl, eq_of_beq hx, (Option.some.inj h).symm⟩
    | false => rw [hx] at h; exact .inr h
set_option tactic.hygienic true in
theorem codeHd_of {K : Frag} {h : Heap} {cd : Value} {P : Addr} (X : K.In h) (e : codeHdB K cd P = true) : ∃ c, cd = .ref c ∧ CodeHd h c P := by
  unfold codeHdB at e
  split at e
  · split at e
    · rename_i c _ y dd vs sl hK
      refine ob_A (an e) fun e e7 => ?_
      refine ob_A (an e) fun e e6 => ?_
      refine ob_A (an e) fun e e5 => ?_
      refine ob_A (an e) fun e e4 => ?_
      refine ob_A (an e) fun e e3 => ?_
      refine ob_A (an e) fun e1 e2 => ?_
      have e1 := eq_of_beq e1
      have e2 := eq_of_beq e2
      subst e1
      split at e3
      · split at e4
        · split at e5
          · split at e6
            · rename_i h18 _ _ _ h7 _ _ h9 _ _ _ h10
              refine ⟨c, rfl, _, vs, _, _, _, _, _, _, _, X _ _ hK, rfl, rfl, e2, ?_, h18, h7, h9, h10, ?_⟩
              · rw [Array.getD_eq_getD_getElem?, e2]; rfl
              · intro q
                rw [q, beq_self_eq_true] at e7
                cases e7
            · cases e6
          · cases e5
        · cases e4
      · cases e3
    · cases e
  · cases e
theorem enter {cells : List (Addr × Obj)} {all : List RV} (I : FnIs C.K C.G.tabs f qual d p) (hE : F.env = envOfC qual p.scope F.L f p.cdv) (hd : F.d = 1) (htm : F.tm = d.tab) (a : Act C F) (r : Rel C F (bindL (envOfC qual p.scope F.L f p.cdv).kindOf (p.binds ws) fun z_ => none) σ) (hv : VsRel C σ all ws) (hl : ws.length = d.params.length)
    (CA : CellsAre (bindC (envOfC qual p.scope F.L f p.cdv).kindOf (p.binds ws) fun z_ => none) (cellsFrom (F.L + 1) p.scope.names []) cells) (NC : ∀ q ∈ cells, Held F σ q.1 q.2) :
    SNow C F (bindL (envOfC qual p.scope F.L f p.cdv).kindOf (p.binds ws) fun z_ => none) (d.params.zip all) σ := by
  obtain ⟨A, env, h₀, L, n, dd, tm⟩ := F
  have htm : tm = d.tab := htm
  have hd : dd = 1 := hd
  subst htm; subst hd
  have hE : env = envOfC qual p.scope L f p.cdv := hE
  subst hE
  have cge := cellsFrom_ge p.scope.names (L + 1) [] (fun q hq => by cases hq) .nil
  have cellAt : ∀ x, p.scope.names.lookup x = some .cell → ∃ c o, (cellsFrom (L + 1) p.scope.names []).lookup x = some c ∧ Held ⟨A, envOfC qual p.scope L f p.cdv, h₀, L, n, 1, d.tab⟩ σ c o ∧ o.data = .cell (bindC (envOfC qual p.scope L f p.cdv).kindOf (p.binds ws) (fun z_ => none) x) := fun x hx => by
    refine ob_E (cell_name hx (L + 1)) fun c hc => ?_
    refine ob_EA (cellsAre_at CA (lookup_mem hc)) fun o ho hod => ?_
    exact ⟨c, o, hc, NC _ ho, hod⟩
  refine ⟨a, ⟨I.knd, rfl, rfl, rfl, fun x k h hne => ?kin, fun x hx => ?_, fun t ht => ?tab, .inl ⟨rfl, rfl⟩⟩, rfl, fun x v hx => ?_, r, fun x hx => ?_, fun x y c h1 h2 => ?_⟩
  case kin =>
    rcases tm_look h with ⟨t, _, _, e⟩ | h
    · exact absurd e hne
    · exact .inl h
  case tab =>
    rcases tm_look ht with ⟨t', e1, e2, _⟩ | h
    · refine ob_EA (I.tb t' e1) fun P h1 h2 => ?_
      refine ob_EA (codeHd_of a.X h2) fun c h3 h4 => ?_
      refine ⟨rfl, I.gen, c, P, h3, h4, ?_⟩
      rw [tabName_inj e2]; exact h1
    · exact absurd rfl (I.gx _ (lookup_mem h))
  · have hx : p.scope.names.lookup x = some .cell ∨ p.scope.names.lookup x = some .free := by
      rcases hx with hx | hx
      · rcases tm_look hx with ⟨_, _, _, e⟩ | h
        · cases e
        · exact .inl h
      · rcases tm_look hx with ⟨_, _, _, e⟩ | h
        · cases e
        · exact .inr h
    rcases hx with hx | hx
    · refine ob_EEA (cellAt x hx) fun c o hc z_ => ?_
      exact ⟨c, hc⟩
    · exact absurd hx (I.free x)
  · refine ob_EA (zip_lookup (α := Unit) hx) fun j h1 h2 => ?_
    refine ob_EA (hv.get j v h2) fun u hu hvr => ?_
    have hmem : (Str.ofString x, u) ∈ p.binds ws := by
      unfold FP.binds
      rw [I.par]
      exact zip_mem (by rw [List.getElem?_map, h1]; rfl) hu
    refine ⟨fun hk z_ => ⟨u, bindL_at _ _ (binds_nd I hl) hmem hk, hvr⟩, fun hk => ?_⟩
    have hk : p.scope.names.lookup (Str.ofString x) = some .cell := by
      rcases hk with hk | hk
      · exact hk
      · exact absurd hk (I.free _)
    refine ob_EEAA (cellAt _ hk) fun c o hc hH hod => ?_
    refine ⟨c, o, u, hc, hH.std, ?_, hvr⟩
    rw [hod, bindC_at _ _ (binds_nd I hl) hmem hk]
  · refine ob_EEAA (cellAt x hx) fun c o hc hH hod => ?_
    exact ⟨c, o, _, hc, hH, hod⟩
  · exact snd_inj cge.1 (lookup_mem h1) (lookup_mem h2)
end
section
variable {C : Cx} {n : Nat}
theorem uok_succ (hS : ∀ ss rs, SsOk C (callU C.G n) n ss rs) : UOk C (callU C.G (n + 1)) (n + 1) := by
  intro F m σ Q d f qual args vals R hn a hm hv r hw hQ
  refine ob_E (fn_of hm) fun p I => ?_
  refine ob_EA (opt_of (show optwp (bindR d.params d.dflts args) (fun loc => wpSs C.G (callU C.G n) d.body loc σ.H fun fl z_ H₁ => Q (retV fl) H₁) from hw)) fun loc hb hw => ?_
  refine ob_EEEA (a.bel) fun A₀ base outer hB hA => ?_
  have X : C.K.In σ.h := a.X.keeps r.fr.keep
  (refine ob_EEAAA (call_binds (s := σ.s) I X hb hv) fun all ws o1_ hall hl hbinds => ?_; subst o1_)
  refine callX_cells hB r.fr (news_others (σ := σ)) a.T.nolimit hA a.frm a.knd (X _ _ I.at_) I.data (codeRec_of X I.cod) (by have := a.dep; omega) hbinds (binds_kinds I hl) (cell_nd I 0) ?_ I.cor I.gen I.knd
  intro g L' h₁ tk cells FG F' N' CA B' st hlt
  have nL : ∀ b o, g.get? b = some o → b ≠ L' := fun b o e => Nat.ne_of_lt (Nat.lt_of_lt_of_le (Heap.lt_size e) F'.above)
  refine ob_EEEA (FG.ns) fun oL z_ z_ gL z_ => ?_
  have liveL : h₁.get? F.L = some oL := F'.keep _ _ gL
  have hk : KeepBut F.L σ.h h₁ := fun b o hb e => by
    cases e0 : F.h₀.get? b with
    | some o' =>
      have := r.fr.keep b o' e0
      rw [e] at this
      cases this
      exact F'.keep _ _ (FG.keep _ _ e0)
    | none => exact (N' (b, o) (List.mem_append.mpr (.inr (mem_others.mpr ⟨e, hb, e0⟩)))).1
  have ownAt : ∀ b ∈ σ.own, ∃ o, (b, o) ∈ others F σ := fun b hb => by
    refine ob_EA (r.live hb) fun o e z_ => ?_
    exact ⟨o, mem_others.mpr ⟨e, (r.low b hb).2, (r.low b hb).1⟩⟩
  have lowG : ∀ b ∈ σ.own, g.get? b = none ∧ b ≠ L' := fun b hb => by
    refine ob_E (ownAt b hb) fun o ho => ?_
    have := N' (b, o) (List.mem_append.mpr (.inr ho))
    exact ⟨this.2.2, this.2.1⟩
  have cge := cellsFrom_ge p.scope.names (L' + 1) [] (fun q hq => by cases hq) .nil
  have cbig : ∀ x c, (cellsFrom (L' + 1) p.scope.names []).lookup x = some c → L' < c ∧ ∃ o, (c, o) ∈ cells := fun x c hc => by
    refine ⟨?_, let ⟨o, ho, _⟩ := cellsAre_at CA (lookup_mem hc); ⟨o, ho⟩⟩
    rcases cge.2 _ (lookup_mem hc) with h | h
    · cases h
    · exact h
  have cin : ∀ q ∈ cells, L' < q.1 := fun q hq => by
    have : q.1 ∈ (cellsFrom (L' + 1) p.scope.names []).map (·.2) := by rw [← cellsAre_fst CA]; exact List.mem_map_of_mem hq
    refine ob_EA (List.mem_map.mp this) fun z hz e => ?_
    rcases cge.2 z hz with h | h
    · cases h
    · rw [← e]; exact h
  have fresh : ∀ b, L' ≤ b → g.get? b = none → σ.h.get? b = none := fun b hb hg => by
    cases e : σ.h.get? b with
    | none => rfl
    | some o =>
      by_cases hL : b = F.L
      · rw [hL, gL] at hg; cases hg
      · cases e0 : F.h₀.get? b with
        | some o' => rw [FG.keep _ _ e0] at hg; cases hg
        | none => exact absurd (hlt (b, o) (mem_others.mpr ⟨e, hL, e0⟩)) (Nat.not_lt.mpr hb)
  have gnone : g.get? L' = none := up_none F'.above
  let F₁ : Fm := ⟨F.A.deeper (envOfC qual p.scope L' f p.cdv), envOfC qual p.scope L' f p.cdv, g, L', n, 1, d.tab⟩
  let s₁ : Shared := { σ.s with heap := h₁, toks := tk }
  have c₁ : Carry σ (σ.at s₁) := butL_carry r hk
  have act : Act C F₁ := ⟨⟨F.A, base, F.env :: outer, B', Around.frames_deeper B'.stack⟩, rfl, I.knd, I.gen, I.cor, rfl, rfl, a.X.keeps st, a.T.keeps st, a.sr.keeps st, a.tr, a.hd,
    by have := a.dep; rw [hn] at this; show F.A.depth + 1 + 40 * n + 20 * 1 + 115 + 5 < _; omega, by have := a.uni; rw [hn] at this; show F.A.units + 3 + 100 * n + 50 * 1 + 195 + 5 < _; omega, a.O, a.Z, fun P hP => (a.bm P hP).keeps st⟩
  have rel : Rel C F₁ (bindL (envOfC qual p.scope L' f p.cdv).kindOf (p.binds ws) fun z_ => none) (σ.at s₁) := ⟨F', r.nd, lowG, r.len, fun i o e => let ⟨b, hb, x⟩ := r.R i o e; ⟨b, hb, x.mono c₁ fun y hy x g => hk y x (r.low y (mem_own hb hy)).2 g⟩, r.tb⟩
  have NC : ∀ q ∈ cells, Held F₁ (σ.at s₁) q.1 q.2 := fun q hq => by
    have z := N' q (List.mem_append.mpr (.inl hq))
    refine ⟨⟨fun ho => ?_, z.2.1, z.1⟩, z.2.2⟩
    refine ob_E (ownAt _ ho) fun o ho => ?_
    exact absurd (hlt _ ho) (Nat.not_lt.mpr (Nat.le_of_lt (cin q hq)))
  have NW := enter (F := F₁) (σ := σ.at s₁) I rfl rfl rfl act rel (hall.mono c₁) hl CA NC
  refine hS p.b d.body (F := F₁) rfl I.body NW hw fun fl flow loc' m' σ₂ q hf N₂ x => ?_
  refine leaveK_ (news' := others F₁ σ₂) N₂.r.fr news_others fun kF kN => ?_
  have dead : ∀ b, (NF F₁) b → σ.h.get? b = none := fun b hb => by
    rcases hb with hb | ⟨y, hb⟩
    · rw [show b = L' from hb]; exact fresh L' (Nat.le_refl _) gnone
    · refine ob_AE (cbig y b hb) fun h1 o h2 => ?_
      exact fresh b (Nat.le_of_lt h1) (N' (b, o) (List.mem_append.mpr (.inl h2))).2.2
  have old : ∀ b, b ∈ σ₂.own → b ∈ σ.own ∨ σ.h.get? b = none ∧ b ≠ F.L := fun b hb => by
    rcases x.new b hb with h | h
    · exact .inl h
    · refine .inr ?_
      have h : h₁.get? b = none := h
      have hL : b ≠ F.L := fun e => by rw [e, liveL] at h; cases h
      refine ⟨?_, hL⟩
      cases e : σ.h.get? b with
      | none => rfl
      | some o => rw [hk b o hL e] at h; cases h
  have low₂ : ∀ b ∈ σ₂.own, F.h₀.get? b = none ∧ b ≠ F.L := fun b hb => by
    rcases old b hb with h | ⟨h, h'⟩
    · exact r.low b h
    · refine ⟨?_, h'⟩
      cases e : F.h₀.get? b with
      | none => rfl
      | some o => rw [r.fr.keep _ _ e] at h; cases h
  have rel₂ : Rel C F m σ₂ := ⟨kF, N₂.r.nd, low₂, N₂.r.len, N₂.r.R, N₂.r.tb⟩
  have nx : Nx (NL F) σ σ₂ := ⟨fun i b e => x.ext i b e, fun b hb => (old b hb).imp id (·.1), fun b o hb e => by
      by_cases hL : b = F.L
      · rw [hL]; exact x.liv F.L oL (hL ▸ hb) liveL
      · exact x.liv b o hb (hk b o hL e), fun b o hb q e => by
      by_cases hL : b = F.L
      · refine ob_EEEA (r.liveL) fun oL' es ep gL' dL => ?_
        rw [hL, gL'] at e
        cases e
        exact absurd dL ((q hL).1 es ep)
      · exact x.frm b o hb (fun z => by rw [dead b z] at e; cases e) (hk b o hL e), Sm.trans ⟨rfl, rfl, rfl⟩ x.sm, x.hx⟩
  cases hf with
  | next => exact hQ .none σ₂ ⟨.none, q, .none⟩ rel₂ nx
  | brk => exact hQ .none σ₂ ⟨.none, q, .none⟩ rel₂ nx
  | cont => exact hQ .none σ₂ ⟨.none, q, .none⟩ rel₂ nx
  | ret hv' => exact hQ _ σ₂ ⟨_, q, hv'⟩ rel₂ nx
theorem uok (hX : UpdOk C) (hS : ∀ U n, UOk C U n → SortOk C U n) : ∀ n, UOk C (callU C.G n) n
  | 0 => by
    intro hn a hm hv r hw hQ
    exact absurd hw id
  | n + 1 => uok_succ fun ss rs => okSs (okE hX (uok hX hS n) (hS _ _ (uok hX hS n))) (okEs hX (uok hX hS n) (hS _ _ (uok hX hS n))) rs ss
end
end Mine
end
namespace Mine
open PySem PySem.W PySem.W.X PySem.Calls PyProof.Rows PySem.SeqAt
section
variable {prog : Program} {w : World} {A : Around} {s : Shared} {R : Result → Shared → Prop} {name qual : Str} {params : Arguments} {body : List Stmt} {scope : Scope} {dV kV doc pm cdv ct : Value} {an : Option Addr} {fo : Obj} {f : Addr} {args : Args} {binds : List (Str × Value)}
theorem callT_cells (hlim : s.heap.NoLimit)
    (ho : s.heap.get? f = some fo) (hd : fo.data = .func (fnX name qual params body scope [] dV kV doc pm an cdv ct)) (hcd : s.heap.CodeRec cdv qual) (hroom : A.depth < recursionLimit)
    (hbind : BindsTo s (fnX name qual params body scope [] dV kV doc pm an cdv ct) args binds)
    (hkind : ∀ n, ∀ x ∈ binds, scope.names.lookup x.1 = some .local ∨ (scope.names.lookup x.1 = some .cell ∧ ((cellsFrom n scope.names []).lookup x.1).isSome = true))
    (hnd : ((cellsFrom 0 scope.names []).map (·.1)).Nodup)
    (h : ∀ h₁ tk cells, Fr s.heap s.heap.objs.size h₁ (bindL (envOfC qual scope s.heap.objs.size f cdv).kindOf binds fun z_ => none) → News s.heap s.heap.objs.size h₁ cells →
      CellsAre (bindC (envOfC qual scope s.heap.objs.size f cdv).kindOf binds fun z_ => none) (cellsFrom (s.heap.objs.size + 1) scope.names []) cells →
      wpAny (model prog w) (A.deeper (envOfC qual scope s.heap.objs.size f cdv)) (execs body (envOfC qual scope s.heap.objs.size f cdv))
        (fun fl s' => R (.ok (.ret (match fl with | .ret v => v | _ => .none))) s')
        (fun e s' => wpAny (model prog w) (A.deeper (envOfC qual scope s.heap.objs.size f cdv)) (leaving (envOfC qual scope s.heap.objs.size f cdv) e) (fun z_ s'' => R (.error e) s'') (fun e' s'' => R (.error e') s'') s')
        { s with heap := h₁, toks := tk })
    (hco : scope.isCoroutine = false := by rfl) (hgen : scope.isGenerator = false := by rfl) (hk : scope.kind = .function := by rfl) : codeAny (model prog w) A (.call (.ref f) args) R s := by
  refine codeAny_call_function hroom ho hd hco hgen rfl hcd (hbind _ _ _ _ ?_)
  refine wpAny_newFunctionEnv_cells hk (hkind _) fun env' he s' x => ?_
  subst he
  refine ⟨hlim.keeps x.toInCall.keep, codeAny_func ?_⟩
  (refine ob_EEA (x.done) fun h₁ tk o1_ z_ => ?_; subst o1_)
  have hk₁ := x.toInCall.keep
  refine ob_EA (Cl.news (h₀ := s.heap) (Nat.le_refl _) fun n c hm => ⟨x.cell n c (lookup_of_mem_nodup (cellsFrom_names scope.names 0 (s.heap.objs.size + 1) [] [] rfl ▸ hnd) hm), x.above n c hm⟩) fun cells NC Y => ?_
  exact h h₁ tk cells ⟨x.toInCall.ns, hk₁, Nat.le_refl _⟩ NC Y
end
section
variable {C : Cx} {n : Nat}
abbrev tabH (G : RProg) : RH := G.tabs.map fun z_ => .tab false
theorem old_of {s : Shared} {F : Fm} {m : Str → Option Value} {σ : Sg} {tabs : List (Addr × Addr)} (hT : TabsAt tabs s.heap) (ht : tabs.map (·.2) = C.G.tabs) (h0 : F.h₀ = ghostOf s.heap tabs) (r : Rel C F m σ) : OldK s.heap σ.h := by
  have tab : ∀ b, b ∈ tabs.map (·.2) → ∃ ps, σ.h.get? b = some (tabObj ps) := fun b hb => by
    rw [ht] at hb
    refine ob_E (List.mem_iff_getElem?.mp hb) fun t hb => ?_
    refine ob_AE (r.tb t b hb) fun h1 b' h2 => ?_
    refine ob_EA (r.R t _ h2) fun bl h3 h4 => ?_
    rw [h1] at h3
    cases h3
    cases h4 with
    | tab g _ => exact ⟨_, g⟩
  have was : ∀ b, b ∈ tabs.map (·.2) → isCodeTable s.heap b ∧ s.heap.get? b = some (tabObj #[]) := fun b hb => by
    (refine ob_EA (List.mem_map.mp hb) fun q hq o1_ => ?_; subst o1_)
    (refine ob_A (hT q hq) fun o1_ h2 => ?_; revert o1_; refine ob_EEEEEEEEEAAAAr fun o vs z_ z_ z_ z_ z_ z_ z_ e1 e2 e3 e4 z_ => ?_)
    exact ⟨⟨q.1, o, vs, e1, e2, e3, e4⟩, h2⟩
  have kept : ∀ b o, b ∉ tabs.map (·.2) → s.heap.get? b = some o → σ.h.get? b = some o := fun b o hb e => r.fr.keep b o (by rw [h0]; exact ghost_ne e hb)
  refine ⟨fun b o e => ?_, fun b o e => ?_⟩
  · by_cases hb : b ∈ tabs.map (·.2)
    · refine ob_A (was b hb) fun w1 w2 => ?_
      refine ob_E (tab b hb) fun ps g => ?_
      rw [w2] at e
      cases e
      exact .inr (.inl ⟨w1, rfl, #[], ps, rfl, by rw [g]; simp⟩)
    · exact .inl (kept b o hb e)
  · by_cases hb : b ∈ tabs.map (·.2)
    · refine ob_E (tab b hb) fun ps g => ?_
      exact ⟨_, g⟩
    · exact ⟨o, kept b o hb e⟩
theorem uok_top {s : Shared} {Q : PV} {R : Result → Shared → Prop} {d : RFn} {f : Addr} {qual : Str} {args : List RV} {vals : List Value} {tabs : List (Addr × Addr)} (hX : UpdOk C) (hS : ∀ U n, UOk C U n → SortOk C U n) (O : ProgOk C.K C.G) (hn : n ≤ 12)
    (hT : TabsAt tabs s.heap) (ht : tabs.map (·.2) = C.G.tabs) (hnd : C.G.tabs.Nodup) (bm : ∀ P ∈ C.G.tabs, (ghostOf s.heap tabs).BuiltinsAt C.mg P)
    (X : C.K.In (ghostOf s.heap tabs)) (T : TopRead C.p C.loose C.mg C.mb (ghostOf s.heap tabs)) (sr : (ghostOf s.heap tabs).NoSeer) (tr : C.prog.given.tree = none) (hz : FdOk C)
    (hm : mtFn C.K C.G.tabs f qual d = true) (hv : ∀ σ, VsRel C σ args vals) (hw : callU C.G (n + 1) d args (tabH C.G) Q)
    (hQ : ∀ v u σ', Q v σ'.H → VRel C σ' v u → OldK s.heap σ'.h → Sm s σ'.s → R (.ok (.ret u)) σ'.s) :
    codeAny C.M callerA (.call (.ref f) ⟨vals, []⟩) R s := by
  refine ob_E (fn_of hm) fun p I => ?_
  refine ob_EA (opt_of (show optwp (bindR d.params d.dflts args) (fun loc => wpSs C.G (callU C.G n) d.body loc (tabH C.G) fun fl z_ H₁ => Q (retV fl) H₁) from hw)) fun loc hb hw => ?_
  have Xs : C.K.In s.heap := fun a o e => of_hideAll _ (X a o e)
  (refine ob_EEAAA (call_binds (s := s) I Xs hb (hv ⟨[], [], s⟩)) fun all ws o1_ hall hl hbinds => ?_; subst o1_)
  refine callT_cells (T.nolimit.keeps fun b o e => of_hideAll _ e) (Xs _ _ I.at_) I.data (codeRec_of Xs I.cod) (by decide +kernel) hbinds (binds_kinds I hl) (cell_nd I 0) ?_ I.cor I.gen I.knd
  intro h₁ tk cells F' N' CA
  generalize hL' : s.heap.objs.size = L' at F' N' CA ⊢
  have B' : Below callerA (ghostOf s.heap tabs) [] (ghostOf s.heap tabs) := ghost_below hT
  let F₁ : Fm := ⟨callerA.deeper (envOfC qual p.scope L' f p.cdv), envOfC qual p.scope L' f p.cdv, ghostOf s.heap tabs, L', n, 1, d.tab⟩
  let σ₁ : Sg := ⟨C.G.tabs.map fun P => [P], tabH C.G, { s with heap := h₁, toks := tk }⟩
  have ow : σ₁.own = C.G.tabs := by
    show (C.G.tabs.map fun P => [P]).flatten = C.G.tabs
    generalize C.G.tabs = l
    induction l with
    | nil => rfl
    | cons x l ih => rw [List.map_cons, List.flatten_cons, ih]; rfl
  have tabAt : ∀ P ∈ C.G.tabs, s.heap.get? P = some (tabObj #[]) := fun P hP => by
    rw [← ht] at hP
    (refine ob_EA (List.mem_map.mp hP) fun q hq o1_ => ?_; subst o1_)
    exact (hT q hq).2
  have act : Act C F₁ := ⟨⟨callerA, ghostOf s.heap tabs, [], B', Around.frames_deeper B'.stack⟩, rfl, I.knd, I.gen, I.cor, rfl, rfl, X, T, sr, tr, rfl,
    by show 1 + 300 + 1 + 40 * n + 20 * 1 + 115 + 5 < 1000; omega, by show 4 + 3 + 100 * n + 50 * 1 + 195 + 5 < 9900; omega, O, hz, bm⟩
  have rel : Rel C F₁ (bindL (envOfC qual p.scope L' f p.cdv).kindOf (p.binds ws) fun z_ => none) σ₁ := by
    refine ⟨ghost_fr hT F', by rw [ow]; exact hnd, fun a h => ?_, by show (C.G.tabs.map _).length = (C.G.tabs.map _).length; rw [List.length_map, List.length_map], fun i o e => ?_, fun t P e => ?_⟩
    · rw [ow] at h
      refine ⟨hideAll_none _ (by rw [ht]; exact h), fun q => ?_⟩
      have := Heap.lt_size (tabAt a h)
      rw [hL'] at this
      exact Nat.ne_of_lt this q
    · have e : (C.G.tabs.map fun z_ => RO.tab false)[i]? = some o := e
      rw [List.getElem?_map] at e
      cases h1 : C.G.tabs[i]? with
      | none => rw [h1] at e; cases e
      | some P =>
        rw [h1] at e
        cases e
        exact ⟨[P], by show (C.G.tabs.map fun P => [P])[i]? = _; rw [List.getElem?_map, h1]; rfl, .tab (ps := #[]) (F'.keep _ _ (tabAt P (List.mem_of_getElem? h1))) fun z_ => rfl⟩
    · exact ⟨by show (C.G.tabs.map fun P => [P])[t]? = _; rw [List.getElem?_map, e]; rfl, false, by show (C.G.tabs.map fun z_ => RO.tab false)[t]? = _; rw [List.getElem?_map, e]; rfl⟩
  have c₁ : Carry ⟨[], [], s⟩ σ₁ := ⟨fun i b e => by simp at e, fun a o hf i => ⟨(fun q => by
    rw [ow] at q
    have h1 := tabAt a q
    have h2 : s.heap.get? a = some o := i.2
    rw [h2] at h1
    cases h1
    rcases hf.1 with e | e | e <;> cases e), F'.keep a o i.2⟩⟩
  have NW := enter (F := F₁) (σ := σ₁) I rfl rfl rfl act rel (hall.mono c₁) hl CA fun q hq => ⟨⟨fun h => (by
    rw [ow] at h
    have h2 := (N' q hq).2.2
    rw [tabAt _ h] at h2
    cases h2), (N' q hq).2.1, (N' q hq).1⟩, ghost_fresh (N' q hq).2.2⟩
  · refine okSs (okE hX (uok hX hS n) (hS _ _ (uok hX hS n))) (okEs hX (uok hX hS n) (hS _ _ (uok hX hS n))) d.body p.b (F := F₁) rfl I.body NW hw fun fl flow loc' m' σ₂ q hf N₂ x => ?_
    have Z : Sm s σ₂.s := Sm.trans ⟨rfl, rfl, rfl⟩ x.sm
    have K := old_of (C := C) (F := F₁) hT ht rfl N₂.r
    cases hf with
    | next => exact hQ .none .none σ₂ q .none K Z
    | brk => exact hQ .none .none σ₂ q .none K Z
    | cont => exact hQ .none .none σ₂ q .none K Z
    | ret hv' => exact hQ _ _ σ₂ q hv' K Z
end
theorem good_true {l : OpenLaw} {cl : Str → Option Addr} {mean : ExcName → Option Value} {zs : List Int} {s₁ s' : Shared} (hk : ∀ b o, s₁.heap.get? b = some o → s'.heap.get? b = some o) (z : Sm s₁ s') (hg : s₁.gens = #[]) :
    GoodW l.row.claim cl mean [ofPy (PyData.list (zs.map PyData.int))] s₁ (.ok (.ret (.bool true))) s' := by
  refine ⟨.inl ⟨.bool true, .bool true, [], rfl, fun cls => rfl, .bool true, ?_, fun z_ => ⟨.nil, fun a h => by cases h⟩⟩, hk, z.2.2, z.1.trans hg⟩
  refine postW_of (X := true) (by show WShape.has [] (WData.bool true) WShape.bool = true; first | rfl | decide +kernel | wrow_shape | simp [WShape.has]) ?_ rfl
  show (WTm.eq .res (.lit (.bool true))).value [] _ = _
  first | rfl | decide +kernel | wtm_val | simp [WTm.value]
theorem vs_ints {C : Cx} {σ : Sg} {vs : List Value} {zs : List Int} (h : IntsAre vs zs) : VsRel C σ (zs.map RV.int) vs := by
  induction h with
  | nil => exact .nil
  | cons n t _ ih => exact .cons (.int n t) ih
theorem lookup_app {K : Frag} {a b : Addr} {o o' : Obj} (h : (K ++ [(a, o)]).lookup b = some o') : K.lookup b = some o' ∨ (b = a ∧ o' = o) := by
  induction K with
  | nil =>
    simp only [List.nil_append, List.lookup_cons] at h
    cases hq : b == a with
    | true => rw [hq] at h; cases h; exact .inr ⟨eq_of_beq hq, rfl⟩
    | false => rw [hq] at h; cases h
  | cons q K ih =>
    obtain ⟨q1, q2⟩ := q
    simp only [List.cons_append, List.lookup_cons] at h ⊢
    cases hq : b == q1 with
    | true => rw [hq] at h; exact .inl h
    | false => rw [hq] at h; exact ih h
theorem in_app {K : Frag} {h : Heap} {a : Addr} {o : Obj} (X : K.In h) (g : h.get? a = some o) : Frag.In (K ++ [(a, o)]) h := fun b o' e => by
  rcases lookup_app e with e | ⟨rfl, rfl⟩
  · exact X _ _ e
  · exact g
theorem lookup_app_at {K : Frag} {h : Heap} {a : Addr} {o : Obj} (X : K.In h) (g : h.get? a = some o) : (K ++ [(a, o)]).lookup a = some o := by
  have aux : ∀ K : Frag, (∀ o', K.lookup a = some o' → o' = o) → (K ++ [(a, o)]).lookup a = some o := fun K => by
    induction K with
    | nil => intro _; simp
    | cons q K ih =>
      obtain ⟨q1, q2⟩ := q
      intro hq
      simp only [List.cons_append, List.lookup_cons] at hq ⊢
      cases e : a == q1 with
      | true => rw [e] at hq; exact congrArg some (hq q2 rfl)
      | false => rw [e] at hq; exact ih hq
  exact aux K fun o' e => by have := X _ _ e; rw [g] at this; exact (Option.some.inj this).symm
set_option tactic.hygienic true in
theorem noTabs_app {K : Frag} {a : Addr} {o : Obj} (h : noTabs K = true) (hc : o.cls ≠ .none) : noTabs (K ++ [(a, o)]) = true := by
  unfold noTabs at h ⊢
  rw [List.all_append, h, Bool.true_and, List.all_cons, List.all_nil, Bool.and_true]
  split
  · rename_i e _; exact absurd e hc
  · rfl
theorem good_trueG {l : OpenLaw} {cl : Str → Option Addr} {mean : ExcName → Option Value} {zs : List Int} {s₁ s' : Shared} (hk : OldK s₁.heap s'.heap) (z : Sm s₁ s') (hg : s₁.gens = #[]) :
    GoodWG l.row.claim cl mean [ofPy (PyData.list (zs.map PyData.int))] s₁ (.ok (.ret (.bool true))) s' := by
  refine ob_A (good_true (l := l) (cl := cl) (mean := mean) (zs := zs) (s₁ := s₁) (s' := s₁) (fun z_ z_ e => e) (Sm.refl _) hg) fun h1 z_ => ?_
  refine ⟨?_, hk, z.2.2, .of_eq (z.1.trans hg)⟩
  rcases h1 with ⟨v, d, as, e, h2, h3, h4, h5⟩ | ⟨e, ob, cls, e1, _⟩
  · cases e
    cases h3
    exact .inl ⟨.bool true, _, [], rfl, h2, .bool true, h4, fun z_ => ⟨.nil, fun a h => by cases h⟩⟩
  · cases e1
theorem law_top {l : OpenLaw} {w : World} {K : Frag} {G : RProg} {p : Program} {loose : List Str} {mean : ExcName → Option Value} {mg mb : Str → Option Value} {n : Nat} {s₁ : Shared} {a fa : Addr} {vs : List Value} {zs : List Int} {cl : Str → Option Addr} {mean' : ExcName → Option Value} {d : RFn} {nm : Str} {tabs : List (Addr × Addr)}
    (hX : ∀ C, UpdOk C) (hS : ∀ C U n, UOk C U n → SortOk C U n) (X : K.In s₁.heap) (T : Top p loose mean mg mb s₁.heap) (hi : importsNone p = true) (tr : l.row.prog.given.tree = none) (hg : s₁.gens = #[])
    (hL : s₁.heap.IsList a vs.toArray) (hI : IntsAre vs zs) (hnm : nm = Str.ofString "law") (hmg : mg nm = some (.ref fa))
    (htab : ∀ q ∈ tabs, ∃ d x, (recsOf p).find? (fun e => e.name == x) = some d ∧ tabIn K x = some (q.1, q.2)) (ht : tabs.map (·.2) = G.tabs) (hnd : G.tabs.Nodup) (hnt : noTabs K = true)
    (hd : G.funs.lookup "law" = some d) (hm : ∀ a o, mtProg (K ++ [(a, o)]) G = true) (hn : n ≤ 12) (hz : ∀ a o p loose, FdOk ⟨l.row.prog, w, K ++ [(a, o)], p, loose, mg, mb, G⟩)
    (hw : callU G (n + 1) d [.arg (zs.map RV.int)] (tabH G) fun v z_ => v = .bool true) :
    codeAny (model l.row.prog w) callerA (.call (.ref fa) ⟨[.ref a], []⟩) (GoodWG l.row.claim cl mean' [ofPy (PyData.list (zs.map PyData.int))] s₁) s₁ := by
  have hT : TabsAt tabs s₁.heap := fun q hq => let ⟨d, x, h1, h2⟩ := htab q hq; tab_of T X h1 h2
  (revert hL; refine ob_EAAEr fun o ho hc k hdt => ?_)
  have X' := in_app X ho
  have O := progOk (hm a o)
  refine ob_EA (O.fn "law" d hd) fun f hf hmt => ?_
  have := mg_of X' T.g hf
  rw [hnm, this] at hmg
  cases hmg
  have T' := ghost_top hT T
  have sr := T.seer hi
  have sg : (ghostOf s₁.heap tabs).NoSeer := ⟨let ⟨mc, h1, h2⟩ := sr.statics; ⟨mc, ghost_ns hT h1, h2⟩, let ⟨mc, h1, h2⟩ := sr.mods; ⟨mc, ghost_ns hT h1, h2⟩, let ⟨mc, h1, h2⟩ := sr.imp; ⟨mc, ghost_ns hT h1, h2⟩, let ⟨mg', bm, ob, h1, h2, h3, h4, h5⟩ := sr.main; ⟨mg', bm, ob, ghost_ns hT h1, h2, ghost_get hT h3 (fun q => by rw [q] at h4; cases h4), h4, h5⟩⟩
  have bm : ∀ P ∈ G.tabs, (ghostOf s₁.heap tabs).BuiltinsAt mg P := fun P hP => by
    refine ob_EEAAAAA (T'.bmain) fun bm ob b1 b2 b3 b4 b5 b6 => ?_
    refine ⟨bm, ob, b1, b2, fun q => ?_, fun q => ?_, b3, b4, b5, b6⟩
    · refine ob_EEEAA (T'.g) fun o es ep e hd z_ => ?_
      rw [q, e] at b3; cases b3; rw [hd] at b6; cases b6
    · have := hideAll_none (h := s₁.heap) (tabs.map (·.2)) (b := P) (by rw [ht]; exact hP)
      rw [q, show (ghostOf s₁.heap tabs).get? P = none from this] at b3; cases b3
  refine uok_top (C := ⟨l.row.prog, w, K ++ [(a, o)], topProg, _, mg, mb, G⟩) (hX _) (hS _) O hn hT ht hnd bm (ghost_K hT X' (noTabs_app hnt (by rw [hc]; intro e; cases e))) (topRead_of T') sg tr (hz a o _ _) hmt (fun σ => .cons (.arg (lookup_app_at X ho) hc hdt (vs_ints hI)) .nil) hw ?_
  intro v u σ' q hv hk z
  subst q
  rw [hv.bool_inv]
  exact good_trueG hk z hg
end Mine
namespace Mine
open PySem PySem.W PySem.Calls PyProof.Rows PySem.SeqAt
theorem updOk (C : Cx) : UpdOk C := fun {F m σ Q args vals o ou} z_ z_ z_ z_ hw => by
  unfold mbwp at hw
  simp only [String.reduceEq, if_false] at hw
theorem kLam {e : Expr} (h : (e.ctorIdx == 4) = true) : ∃ a b c d, e = .Lambda a b c d := by
  cases e <;> first | exact ⟨_, _, _, _, rfl⟩ | exact absurd h Bool.false_ne_true
theorem kwLam_of {ks : List Keyword} {l : Expr} (h : kwLam ks = some l) : ∃ A b sc p kp, l = .Lambda A b sc p ∧ ks = [⟨some (Str.ofString "key"), .Lambda A b sc p, kp⟩] := by
  cases ks with
  | nil => exact nos h
  | cons k r =>
    cases r with
    | cons _ _ => exact nos h
    | nil =>
      refine ob_A (if_of (show (if (k.arg == some (Str.ofString "key") && k.value.ctorIdx == 4) = true then some k.value else none) = some l from h)) fun hc e => ?_
      refine ob_A (an hc) fun h1 h2 => ?_
      obtain ⟨ka, kv, kp⟩ := k
      have e1 : ka = some (Str.ofString "key") := eq_of_beq h1
      refine ob_EEEE (kLam (e := kv) h2) fun A b sc p e2 => ?_
      subst e1; subst e2
      exact ⟨A, b, sc, p, kp, e.symm, rfl⟩
theorem one1 {es : List Expr} {P : Expr → Bool} (h : (match es with | [a] => P a | _ => false) = true) : ∃ a, es = [a] ∧ P a = true := by
  rcases es with _ | ⟨a, _ | ⟨_, _⟩⟩ <;> first | exact absurd h Bool.false_ne_true | exact ⟨a, rfl, h⟩
theorem inv_sortk {ns : Ns} {e : Expr} {a b : RE} {x : String} {t : Nat} (h : mtE ns e (.sortk a x b t) = true) :
    ∃ np arg A body sc lp kp p, e = .Call (.Name (Str.ofString "sorted") np) [arg] [⟨some (Str.ofString "key"), .Lambda A body sc lp, kp⟩] p ∧ ns.lookup (tabName t) = some .globalExplicit ∧ ns.lookup (Str.ofString "sorted") = some .globalImplicit ∧ mtE ns arg a = true ∧
      lam1 x A = true ∧ lmOk ns x sc = true ∧ mtE sc.names body b = true := by
  have h' := (an h).2
  (refine ob_EEEE (kCall (an h).1) fun f es ks p o1_ => ?_; subst o1_)
  (refine ob_EE (kName (e := f) (an (an (an (an (an h').1).1).1).1).2) fun id np o1_ => ?_; subst o1_)
  have e1 : id = Str.ofString "sorted" := eq_of_beq (an (an (an (an h').1).1).1).2
  refine ob_EA (one1 (es := es) (an (an h').1).2) fun arg e2 h5 => ?_
  have h7 : (match kwLam ks with | some l => lam1 x (lamA l) && lmOk ns x (lamS l) && mtE (lamS l).names (lamB l) b | none => false) = true := (an h').2
  cases hk : kwLam ks with
  | none => rw [hk] at h7; exact absurd h7 Bool.false_ne_true
  | some l =>
    rw [hk] at h7
    have h6 : (lam1 x (lamA l) && lmOk ns x (lamS l) && mtE (lamS l).names (lamB l) b) = true := h7
    refine ob_EEEEEA (kwLam_of (ks := ks) hk) fun A body sc lp kp e3 e4 => ?_
    subst e3
    exact ⟨np, arg, A, body, sc, lp, kp, p, by rw [e1, e2, e4], eq_of_beq (an (an (an (an (an h').1).1).1).1).1, eq_of_beq (an (an (an h').1).1).2, h5, (an (an h6).1).1, (an (an h6).1).2, (an h6).2⟩
end Mine
section
set_option genSizeOfSpec false
set_option genInjectivity false
set_option genSizeOf false
namespace Mine
open PySem PySem.W PySem.Calls PyProof.Rows PySem.SeqAt
structure LmOk (ns : Ns) (x : String) (sc : Scope) : Prop where
  knd : sc.kind = .function
  gen : sc.isGenerator = false
  cor : sc.isCoroutine = false
  nd : (sc.names.map (·.1)).Nodup
  hx : sc.names.lookup (Str.ofString x) = some .local
  cell : ∀ q ∈ sc.names, q.2 ≠ .cell
  gx : ∀ q ∈ sc.names, q.2 ≠ .globalExplicit
  loc : ∀ q ∈ sc.names, q.2 = .local → q.1 = Str.ofString x
  free : ∀ q ∈ sc.names, q.2 = .free → ns.lookup q.1 = some .cell ∨ ns.lookup q.1 = some .free
theorem lmOk_of {ns : Ns} {x : String} {sc : Scope} (h : lmOk ns x sc = true) : LmOk ns x sc := by
  refine ob_A (an h) fun h h6 => ?_
  refine ob_A (an h) fun h h5 => ?_
  refine ob_A (an h) fun h h4 => ?_
  refine ob_A (an h) fun h h3 => ?_
  refine ob_A (an h) fun h1 h2 => ?_
  have all : ∀ q ∈ sc.names, (q.2 != .cell) = true ∧ (q.2 != .globalExplicit) = true ∧ (q.2 != .local || q.1 == Str.ofString x) = true ∧ (q.2 != .free || ns.lookup q.1 == some .cell || ns.lookup q.1 == some .free) = true := fun q hq => by
    refine ob_A (an (List.all_eq_true.mp h6 q hq)) fun a a4 => ?_
    refine ob_A (an a) fun a a3 => ?_
    refine ob_A (an a) fun a1 a2 => ?_
    exact ⟨a1, a2, a3, a4⟩
  refine ⟨eq_of_beq h1, Bool.not_eq_true' _ |>.mp h2, Bool.not_eq_true' _ |>.mp h3, of_decide_eq_true h4, eq_of_beq h5, fun q hq e => ?_, fun q hq e => ?_, fun q hq e => ?_, fun q hq e => ?_⟩
  · have := (all q hq).1
    rw [e] at this; exact absurd this Bool.false_ne_true
  · have := (all q hq).2.1
    rw [e] at this; exact absurd this Bool.false_ne_true
  · have := (all q hq).2.2.1
    rw [e] at this
    exact eq_of_beq (show (q.1 == Str.ofString x) = true from this)
  · have := (all q hq).2.2.2
    rw [e] at this
    rcases Bool.or_eq_true _ _ |>.mp this with h | h
    · exact .inl (eq_of_beq (show (ns.lookup q.1 == some .cell) = true from h))
    · exact .inr (eq_of_beq h)
def LmAt (V : Vm) (F : Fm) (σ : Sg) (A : Arguments) (body : Expr) (sc : Scope) (f : Addr) : Prop :=
  ∃ qual cl pm c' ctv, (∀ y, sc.names.lookup y = some .free → cl.lookup y = V.env.cells.lookup y) ∧ Held F σ f (kla_obj "<lambda>" qual A body sc cl pm c' ctv) ∧ ∃ oc vs t, Held F σ c' oc ∧ oc.data = .fields vs ∧ vs[1]? = some (.str qual t)
theorem LmAt.step {V : Vm} {F : Fm} {σ σ' : Sg} {A : Arguments} {body : Expr} {sc : Scope} {f : Addr} (h : LmAt V F σ A body sc f) (x : Nx (NL F) σ σ') : LmAt V F σ' A body sc f :=
  let ⟨q, cl, pm, c', ct, h1, h2, oc, vs, t, h3, h4⟩ := h
  ⟨q, cl, pm, c', ct, h1, h2.step x, oc, vs, t, h3.step x, h4⟩
section
variable {C : Cx} {F : Fm} {V : Vm} {m : Str → Option Value} {σ : Sg} {E : Value → Shared → Prop}
theorem lam_ok {A : Arguments} {body : Expr} {sc : Scope} {lp : Pos} {t : Nat} {x : String} {Q : Value → Shared → Prop} (N : Now C F V m σ) (ht : V.ns.lookup (tabName t) = some .globalExplicit) (h1 : lam1 x A = true) (S : LmOk V.ns x sc) (hb : tabAt σ.H t = some ())
    (h : ∀ f σ', Rel C F m σ' → Nx (NL F) σ σ' → σ'.H = σ.H.set t (.tab true) → LmAt V F σ' A body sc f → Q (.ref f) σ'.s) :
    wpAny C.M F.A (eval (.Lambda A body sc lp) V.env) Q E σ.s := by
  refine ob_AAEEAA (N.e.tab t ht) fun z_ z_ c P hcode CH hP => ?_
  refine ob_AE (N.r.tb t P hP) fun had b hH => ?_
  refine ob_EA (bind_of hb) fun b' hb' e => ?_
  rw [hH] at hb'
  have hb' : b = b' := Option.some.inj hb'
  subst hb'
  cases b with
  | true => exact nos e
  | false =>
    refine ob_EA (N.r.R t _ hH) fun bl h3 h4 => ?_
    rw [had] at h3
    cases h3
    cases h4 with
    | @tab _ ps _ g hps =>
      have e0 := hps rfl
      subst e0
      refine ob_EA (clos_ok (sc := sc) (env := V.env) fun q hq e => N.e.cel q.1 (S.free q hq e)) fun cl hcl hclk => ?_
      have hm : P ∈ σ.own := mem_own had (.head _)
      have hgP : mainGlobals ≠ P := fun q => by
        refine ob_EEEAA (N.a.T.g.keeps N.r.fr.keep) fun o es ep e hd z_ => ?_
        rw [q, g] at e; cases e; cases hd
      have hbm := (N.a.bm P (List.mem_of_getElem? hP)).keeps N.r.fr.keep
      have hdef : defaultsOf A V.env = ([], []) := by
        obtain ⟨po, ar, va, ko, kd, kw, df⟩ := A
        refine ob_A (an h1) fun h1 z_ => ?_
        refine ob_A (an h1) fun h1 h7 => ?_
        refine ob_A (an h1) fun h1 z_ => ?_
        refine ob_A (an h1) fun h1 h5 => ?_
        have e1 : df = [] := List.isEmpty_iff.mp h7
        have e2 : kd = [] := List.isEmpty_iff.mp h5
        subst e1; subst e2
        rfl
      refine kla_eval hdef (kla_makeFunction (mg := C.mg) hcl N.e.gl (N.a.T.g.keeps N.r.fr.keep) hcode (CH.keeps N.r.fr.keep) g trivial rfl hgP hbm fun c' ctv h' tk hx hge hlt hrec htb => ?_)
      have hk : KeepBut P σ.h (h'.push (kla_obj "<lambda>" (V.env.qual ++ "<lambda>") A body sc cl ((C.mg "__name__").getD .none) c' ctv)) := fun a o ha e => Heap.get?_push_of_some _ (hx a o ha e)
      have r' : Rel C F m (σ.chg t (.tab true) { σ.s with heap := h'.push (kla_obj "<lambda>" (V.env.qual ++ "<lambda>") A body sc cl ((C.mg "__name__").getD .none) c' ctv), toks := tk }) :=
        N.r.chg had (.head _) hk (.tab (Heap.get?_push_of_some _ htb) fun e => by cases e) fun b e => ⟨true, rfl⟩
      have n' : Nx (NL F) σ (σ.chg t (.tab true) { σ.s with heap := h'.push (kla_obj "<lambda>" (V.env.qual ++ "<lambda>") A body sc cl ((C.mg "__name__").getD .none) c' ctv), toks := tk }) :=
        Nx.chg hm hk ⟨rfl, rfl, rfl⟩ fun o e => by rw [hH] at e; cases e; exact Ages.none rfl
      have sz : σ.h.objs.size ≤ h'.objs.size := Nat.le_of_lt (Nat.lt_of_le_of_lt hge hlt)
      have z := N.r.off sz
      (revert hrec; refine ob_EEEEAAAr fun c₂ oc vs tt e2 hoc hd hv => ?_)
      cases e2
      have z' := N.r.off hge
      exact h h'.objs.size _ r' n' rfl ⟨_, cl, _, c', ctv, hclk, ⟨⟨fun q => absurd (N.r.lt q) (Nat.not_lt.mpr sz), z.2, Heap.get?_push_size _ rfl⟩, z.1⟩, oc, vs, tt, ⟨⟨fun q => absurd (N.r.lt q) (Nat.not_lt.mpr hge), z'.2, Heap.get?_push_of_some _ hoc⟩, z'.1⟩, hd, hv⟩
end
end Mine
end
namespace Mine
open PySem PySem.W PySem.Spec PySem.Calls PyProof.Rows PySem.SeqAt
section
variable {prog : Program} {w : World} {A A₀ : Around} {s : Shared} {L : Addr} {h₀ base : Heap} {m : Str → Option Value} {news : List (Addr × Obj)}
theorem lam_enter {env : Env} {outer : List Env} {R : Result → Shared → Prop} {name qual : Str} {params : Arguments} {body : Expr} {scope : Scope} {cl : List (Str × Addr)} {pm ctv : Value} {c' : Addr} {f : Addr} {args : Args} {binds : List (Str × Value)}
    (B : Below A₀ base outer h₀) (F : Fr h₀ L s.heap m) (N : News h₀ L s.heap news) (hlim : h₀.NoLimit) (hA : A.frames = some (env :: outer)) (hf : env.frame = some L) (hke : env.scope.kind = .function)
    (ho : s.heap.get? f = some (kla_obj name qual params body scope cl pm c' ctv)) (hcd : s.heap.CodeRec (.ref c') qual) (hroom : A.depth < recursionLimit)
    (hbind : BindsTo s (kla_fn name qual params body scope cl pm (.ref c') ctv) args binds) (hloc : ∀ y ∈ binds, scope.names.lookup y.1 = some .local)
    (h : ∀ g L' h₁, Fr h₀ L g m → Fr g L' h₁ (fun y => binds.reverse.lookup y) → News g L' h₁ news → Below A base (env :: outer) g → h₀.StaysIn g → (∀ p ∈ news, p.1 < L') →
      wpAny (model prog w) (A.deeper (envX qual scope L' f (.ref c') cl)) (eval body (envX qual scope L' f (.ref c') cl))
        (fun v s' => LeaveK h₀ L m g R v s')
        (fun e s' => wpAny (model prog w) (A.deeper (envX qual scope L' f (.ref c') cl)) (leaving (envX qual scope L' f (.ref c') cl) e) (fun z_ s'' => R (.error e) s'') (fun e' s'' => R (.error e') s'') s')
        { s with heap := h₁, toks := s.toks + binds.length })
    (hco : scope.isCoroutine = false) (hgen : scope.isGenerator = false) (hk : scope.kind = .function) (hcell : ∀ x ∈ scope.names, x.2 ≠ .cell) : codeAny (model prog w) A (.call (.ref f) args) R s := by
  refine ob_AAA (groundX (R := R) B F N hA hf hke) fun FG BG st lv => ?_
  refine kla_callFunE hroom ho rfl hco hgen rfl hcd (hbind _ _ _ _ ?_)
  refine wpAny_newFunctionEnv hcell hloc (fun h₁ hns hsb => ⟨(hlim.keeps F.keep).fresh _ hsb, ?_⟩) hk
  show codeAny _ _ (.expr body (envX qual scope s.heap.objs.size f (.ref c') cl)) _ _
  have hk₁ : ∀ b o, s.heap.get? b = some o → h₁.get? b = some o := fun b o e => hsb.extBut b o (Nat.ne_of_lt (Heap.lt_size e)) (Heap.get?_push_of_some _ e)
  exact kla_codeExpr (wpAny_mono (h _ s.heap.objs.size h₁ FG ⟨hns, fun b o e => hk₁ b o (of_hideAll _ e), Nat.le_of_eq (hideAll_size _ _)⟩
    (fun p hp => ⟨hk₁ _ _ (N p hp).1, Nat.ne_of_lt (Heap.lt_size (N p hp).1), hideAll_none _ (List.mem_map_of_mem hp)⟩) BG st (fun p hp => Heap.lt_size (N p hp).1)) (fun v s' hl => lv _ _ hl) fun z_ z_ y => y)
end
section
variable {C : Cx} {F : Fm} {V : Vm} {m : Str → Option Value} {σ σ' : Sg} {U : UTy} {n : Nat} {Q : PV}
theorem lam_args {A : Arguments} {x : String} (h : lam1 x A = true) : A.posonlyargs = [] ∧ A.vararg = none ∧ A.kwonlyargs = [] ∧ A.kwarg = none ∧ A.args.map (·.arg) = [Str.ofString x] := by
  refine ob_A (an h) fun h h7 => ?_
  refine ob_A (an h) fun h z_ => ?_
  refine ob_A (an h) fun h h5 => ?_
  refine ob_A (an h) fun h z_ => ?_
  refine ob_A (an h) fun h h3 => ?_
  refine ob_A (an h) fun h1 h2 => ?_
  exact ⟨List.isEmpty_iff.mp h1, Option.isNone_iff_eq_none.mp h2, List.isEmpty_iff.mp h3, Option.isNone_iff_eq_none.mp h5, eq_of_beq h7⟩
theorem lam_binds {s : Shared} {A : Arguments} {x : String} {u : Value} {name qual : Str} {body : Expr} {sc : Scope} {cl : List (Str × Addr)} {pm cdv ctv : Value} (h : lam1 x A = true) :
    BindsTo s (kla_fn name qual A body sc cl pm cdv ctv) ⟨[u], []⟩ [(Str.ofString x, u)] := by
  refine ob_AAAA (lam_args h) fun h1 h2 h3 h4 h5 => ?_
  have hb := binds_ok (s := s) (fd := kla_fn name qual A body sc cl pm cdv ctv) (vals := [u]) (ds := []) h1 h2 h3 h4 (by show (A.args.map (·.arg)).Nodup; rw [h5]; simp) (by show _ ≤ (A.args.map (·.arg)).length; rw [h5]; exact Nat.le_refl _) (by show (A.args.map (·.arg)).length ≤ _; rw [h5]; exact Nat.le_refl _) (Nat.zero_le _)
    (fun M A' E Q hq => wpAny_pure (hq none rfl))
  have e : (List.map (fun x => x.arg) (kla_fn name qual A body sc cl pm cdv ctv).params.args) = [Str.ofString x] := h5
  rw [e] at hb
  exact hb
theorem lam_call {x : String} {A : Arguments} {body : Expr} {sc : Scope} {f : Addr} {b : RE} {v : RV} {u : Value} (hb : Ok C U n b) (hn : F.n = n) (hd : F.d = 1) (N : Now C F V m σ) (h1 : lam1 x A = true) (S : LmOk V.ns x sc) (hm : mtE sc.names body b = true)
    (hL : LmAt V F σ A body sc f) (hv : VRel C σ v u) (hw : wpE C.G U b (setL x v V.loc) σ.H Q) {P : Value → Shared → Prop} {E : Value → Shared → Prop} (hP : ∀ u σ', EP C Q u σ' → Rel C F m σ' → Nx (NL F) σ σ' → P u σ'.s) :
    wpAny C.M F.A.in1.in1 (call (.ref f) [u]) P E σ.s := by
  (revert hL; refine ob_EEEEEAAEEEAAr fun qual cl pm c' ctv hcl hf oc ov ot hc hcd hcq => ?_)
  refine ob_EEEA (N.a.bel) fun A₀ base outer hB hA => ?_
  have r := N.r
  refine wpAny_call (lam_enter (A := F.A.in1.in1) (env := F.env) hB r.fr (news_others (σ := σ)) N.a.T.nolimit hA N.a.frm N.a.knd hf.std.2.2 ⟨c', oc, ov, ot, rfl, hc.std.2.2, hcd, hcq⟩ (by have := N.a.dep; show F.A.depth < _; omega) (lam_binds h1) (fun y hy => by rw [List.mem_singleton] at hy; rw [hy]; exact S.hx) ?_ S.cor S.gen S.knd S.cell)
  intro g L' h₁ FG F' N' B' st hlt
  refine ob_EEEA (FG.ns) fun oL z_ z_ gL z_ => ?_
  have liveL : h₁.get? F.L = some oL := F'.keep _ _ gL
  have hk : KeepBut F.L σ.h h₁ := fun b o hb e => by
    cases e0 : F.h₀.get? b with
    | some o' =>
      have := r.fr.keep b o' e0
      rw [e] at this
      cases this
      exact F'.keep _ _ (FG.keep _ _ e0)
    | none => exact (N' (b, o) (mem_others.mpr ⟨e, hb, e0⟩)).1
  have ownAt : ∀ b ∈ σ.own, ∃ o, (b, o) ∈ others F σ := fun b hb => by
    refine ob_EA (r.live hb) fun o e z_ => ?_
    exact ⟨o, mem_others.mpr ⟨e, (r.low b hb).2, (r.low b hb).1⟩⟩
  have lowG : ∀ b ∈ σ.own, g.get? b = none ∧ b ≠ L' := fun b hb => by
    refine ob_E (ownAt b hb) fun o ho => ?_
    have := N' (b, o) ho
    exact ⟨this.2.2, this.2.1⟩
  have gnone : g.get? L' = none := up_none F'.above
  have fresh : σ.h.get? L' = none := by
    cases e : σ.h.get? L' with
    | none => rfl
    | some o =>
      by_cases hL : L' = F.L
      · rw [hL, gL] at gnone; cases gnone
      · cases e0 : F.h₀.get? L' with
        | some o' => rw [FG.keep _ _ e0] at gnone; cases gnone
        | none => exact absurd (hlt (L', o) (mem_others.mpr ⟨e, hL, e0⟩)) (Nat.lt_irrefl _)
  let env₁ : Env := envX qual sc L' f (.ref c') cl
  let F₁ : Fm := ⟨F.A.in1.in1.deeper env₁, env₁, g, L', n, 0, none⟩
  let s₁ : Shared := { σ.s with heap := h₁, toks := σ.s.toks + 1 }
  let V₁ : Vm := ⟨env₁, sc.names, fun y => [(Str.ofString x, u)].reverse.lookup y, setL x v V.loc⟩
  have c₁ : Carry σ (σ.at s₁) := butL_carry r hk
  have act : Act C F₁ := ⟨⟨F.A.in1.in1, base, F.env :: outer, B', Around.frames_deeper B'.stack⟩, rfl, S.knd, S.gen, S.cor, rfl, rfl, N.a.X.keeps st, N.a.T.keeps st, N.a.sr.keeps st, N.a.tr, N.a.hd,
    by have := N.a.dep; rw [hn, hd] at this; show F.A.depth + 1 + 40 * n + 20 * 0 + 115 + 5 < _; omega, by have := N.a.uni; rw [hn, hd] at this; show F.A.units + 1 + 1 + 3 + 100 * n + 50 * 0 + 195 + 5 < _; omega, N.a.O, N.a.Z, fun P hP => (N.a.bm P hP).keeps st⟩
  have rel : Rel C F₁ (fun y => [(Str.ofString x, u)].reverse.lookup y) (σ.at s₁) := ⟨F', r.nd, lowG, r.len, fun i o e => let ⟨b, hb, x⟩ := r.R i o e; ⟨b, hb, x.mono c₁ fun y hy x g => hk y x (r.low y (mem_own hb hy)).2 g⟩, r.tb⟩
  have envok : EnvOk C F₁ V₁ (fun y => [(Str.ofString x, u)].reverse.lookup y) (σ.at s₁) := by
    refine ⟨S.knd, rfl, rfl, rfl, fun y k h z_ => .inl h, fun y hy => ?_, fun t ht => absurd rfl (S.gx (tabName t, .globalExplicit) (lookup_mem ht)), .inl ⟨rfl, rfl⟩⟩
    have hy : sc.names.lookup y = some .cell ∨ sc.names.lookup y = some .free := hy
    rcases hy with hy | hy
    · exact absurd rfl (S.cell (y, .cell) (lookup_mem hy))
    · refine ob_E (N.e.cel y (S.free (y, .free) (lookup_mem hy) rfl)) fun c hc => ?_
      exact ⟨c, by show cl.lookup y = _; rw [hcl y hy]; exact hc⟩
  have lrel : LRel C F₁ V₁ (σ.at s₁) := fun y vv e => by
    have e : (setL x v V.loc).lookup y = some vv := e
    rw [lookup_setL] at e
    refine ⟨fun h z_ => ?_, fun h => ?_⟩
    · have h : sc.names.lookup (Str.ofString y) = some .local := h
      have hxy : Str.ofString y = Str.ofString x := S.loc (Str.ofString y, .local) (lookup_mem h) rfl
      have hxy' : y = x := ofString_inj hxy
      rw [if_pos hxy'] at e
      cases e
      refine ⟨u, ?_, hv.mono c₁⟩
      show [(Str.ofString x, u)].reverse.lookup (Str.ofString y) = some u
      rw [hxy]; simp
    · have h : sc.names.lookup (Str.ofString y) = some .cell ∨ sc.names.lookup (Str.ofString y) = some .free := h
      rcases h with h | h
      · exact absurd rfl (S.cell (Str.ofString y, .cell) (lookup_mem h))
      · have hne : y ≠ x := fun q => by rw [q, S.hx] at h; cases h
        rw [if_neg hne] at e
        have hk2 : V.env.kindOf (Str.ofString y) = some .cell ∨ V.env.kindOf (Str.ofString y) = some .free := by
          rcases S.free (Str.ofString y, .free) (lookup_mem h) rfl with h' | h'
          · rcases N.e.kin _ _ h' (by decide) with h'' | ⟨h'', _⟩
            · exact .inl h''
            · cases h''
          · rcases N.e.kin _ _ h' (by decide) with h'' | ⟨_, h''⟩
            · exact .inr h''
            · exact .inl h''
        refine ob_EEEAAA ((N.l y vv e).2 hk2) fun c o w a1 a2 a3 a4 => ?_
        refine ⟨c, o, w, by show cl.lookup _ = _; rw [hcl _ h]; exact a1, ⟨a2.1, fun q => ?_, hk c o a2.2.1 a2.2.2⟩, a3, a4.mono c₁⟩
        have := a2.2.2
        rw [show c = L' from q, fresh] at this
        cases this
  refine (hb body).1 (F := F₁) (V := V₁) (σ := σ.at s₁) rfl hm ⟨act, envok, lrel, rel⟩ hw _ _ fun u' σ₂ q r₂ x₂ => ?_
  refine leaveK_ (news' := others F₁ σ₂) r₂.fr news_others fun kF kN => ?_
  have old : ∀ b, b ∈ σ₂.own → b ∈ σ.own ∨ σ.h.get? b = none ∧ b ≠ F.L := fun b hb => by
    rcases x₂.new b hb with h | h
    · exact .inl h
    · refine .inr ?_
      have h : h₁.get? b = none := h
      have hL : b ≠ F.L := fun e => by rw [e, liveL] at h; cases h
      refine ⟨?_, hL⟩
      cases e : σ.h.get? b with
      | none => rfl
      | some o => rw [hk b o hL e] at h; cases h
  have low₂ : ∀ b ∈ σ₂.own, F.h₀.get? b = none ∧ b ≠ F.L := fun b hb => by
    rcases old b hb with h | ⟨h, h'⟩
    · exact r.low b h
    · refine ⟨?_, h'⟩
      cases e : F.h₀.get? b with
      | none => rfl
      | some o => rw [r.fr.keep _ _ e] at h; cases h
  refine hP u' σ₂ q ⟨kF, r₂.nd, low₂, r₂.len, r₂.R, r₂.tb⟩ ⟨fun i b e => x₂.ext i b e, fun b hb => (old b hb).imp id (·.1), fun b o hb e => ?_, fun b o hb q e => ?_, Sm.trans ⟨rfl, rfl, rfl⟩ x₂.sm, x₂.hx⟩
  · by_cases hL : b = F.L
    · rw [hL]; exact x₂.liv F.L oL (hL ▸ hb) liveL
    · exact x₂.liv b o hb (hk b o hL e)
  · by_cases hL : b = F.L
    · refine ob_EEEA (r.liveL) fun oL' es ep gL' dL => ?_
      rw [hL, gL'] at e
      cases e
      exact absurd dL ((q hL).1 es ep)
    · exact x₂.frm b o hb (fun z => by rw [show b = L' from z, fresh] at e; cases e) (hk b o hL e)
end
end Mine
section
set_option genSizeOfSpec false
set_option genInjectivity false
set_option genSizeOf false
namespace Mine
open PySem PySem.W PySem.Spec PySem.Calls PyProof.Rows PySem.SeqAt
theorem ifo_of {α : Type} {c : Prop} [Decidable c] {x : Option α} {r : α} (h : (if c then x else none) = some r) : c ∧ x = some r := by
  by_cases hc : c
  · rw [if_pos hc] at h; exact ⟨hc, h⟩
  · rw [if_neg hc] at h; cases h
theorem kas_go {α : Type} {lt : Nat → Nat → Bool} {n : Nat} {cmp : Nat → Nat → (Bool → Shared → Prop) → Shared → Prop} {s : Shared} (hc : ∀ i j (K : Bool → Shared → Prop), i < n → j < n → K (lt i j) s → cmp i j K s) :
    ∀ (t : KasT α) {r : α} {G : α → Shared → Prop}, kasEv n lt t = some r → G r s → t.kasWp cmp G s
  | .ret a, r, G, e, h => by cases e; exact h
  | .ask i j k, r, G, e, h => by
    refine ob_A (ifo_of (show (if i < n ∧ j < n then kasEv n lt (k (lt i j)) else none) = some r from e)) fun hh e => ?_
    exact hc i j _ hh.1 hh.2 (kas_go hc (k (lt i j)) e h)
section
variable {C : Cx} {σ : Sg} {A : Around} {E : Value → Shared → Prop}
theorem keysP_inv {u : RV} {us : List RV} {ns : List (List Int)} (h : keysP (u :: us) = some ns) : ∃ vs l r, u = .tup vs ∧ intsP vs = some l ∧ keysP us = some r ∧ ns = l :: r := by
  have h : (match (asT u).bind intsP with | some l => (keysP us).map (l :: ·) | none => none) = some ns := h
  cases hi : (asT u).bind intsP with
  | none => rw [hi] at h; exact nos h
  | some l =>
    rw [hi] at h
    (refine ob_EA (map_of h) fun r hr o1_ => ?_; subst o1_)
    refine ob_EA (bind_of hi) fun vs h1 h2 => ?_
    exact ⟨vs, l, r, asT_of h1, h2, hr, rfl⟩
def KeyAt (h : Heap) (u : Value) (l : List Int) : Prop := ∃ a vs n, u = .ref a ∧ h.get? a = some (tupO vs n) ∧ IntsAre vs l
theorem keys_at (hk : C.K.In σ.h) {us : List RV} : ∀ {vs : List Value} {kk : List (List Int)}, VsRel C σ us vs → keysP us = some kk → kk.length = vs.length ∧ ∀ (i : Nat), i < vs.length → KeyAt σ.h (vs.getD i Value.none) (kk.getD i []) := by
  induction us with
  | nil =>
    intro z_ z_ h e
    rw [h.nil_inv]; cases e; exact ⟨rfl, fun i hi => by simp at hi⟩
  | cons u us ih_ =>
    intro z_ kk h e
    (refine ob_EEAA (h.cons_inv) fun v vs o1_ hv hr => ?_; subst o1_)
    (refine ob_EEEAAA (keysP_inv e) fun ws l r o1_ hl hr' o2_ => ?_; subst o1_; subst o2_)
    (refine ob_EEEAA (hv.tup_at hk) fun a xs n o1_ g R => ?_; subst o1_)
    refine ob_A (ih_ hr hr') fun h1 h2 => ?_
    refine ⟨by simp [h1], fun i hi => ?_⟩
    cases i with
    | zero => exact ⟨a, xs, n, rfl, g, R.ints hl⟩
    | succ i => simpa using h2 i (by simpa using hi)
theorem keys_tups (hk : C.K.In σ.h) {us : List RV} : ∀ {vs : List Value} {kk : List (List Int)}, VsRel C σ us vs → keysP us = some kk → kk.all (fun k => !k.isEmpty) = true → ∃ fs, KatTups σ.h vs fs ∧ fs.length = vs.length ∧ ∀ f ∈ fs, ∃ i t, f = Value.int i t := by
  induction us with
  | nil =>
    intro z_ z_ h e z_
    rw [h.nil_inv]; exact ⟨[], trivial, rfl, fun f hf => by cases hf⟩
  | cons u us ih_ =>
    intro z_ kk h e ha
    (refine ob_EEAA (h.cons_inv) fun v vs o1_ hv hr => ?_; subst o1_)
    (refine ob_EEEAAA (keysP_inv e) fun ws l r o1_ hl hr' o2_ => ?_; subst o1_; subst o2_)
    (refine ob_EEEAA (hv.tup_at hk) fun a xs n o1_ g R => ?_; subst o1_)
    rw [List.all_cons] at ha
    refine ob_A (an ha) fun ha1 ha2 => ?_
    refine ob_EAA (ih_ hr hr' ha2) fun fs h1 h2 h3 => ?_
    have R := R.ints hl
    cases R with
    | nil => exact absurd ha1 Bool.false_ne_true
    | @cons i t _ _ _ =>
      refine ⟨_ :: fs, KatTups.cons g rfl rfl rfl h1, by simp [h2], fun f hf => ?_⟩
      rcases List.mem_cons.mp hf with rfl | hf
      · exact ⟨_, _, rfl⟩
      · exact h3 f hf
theorem lex_ok {prog : Program} {w : World} {s : Shared} {fin : Bool} {Q : Bool → Shared → Prop} : ∀ {vs us : List Value} {l l' : List Int} {i : Nat}, IntsAre vs l → IntsAre us l' → fin = decide (vs.length < us.length) → Q (ltK l l') s → KatLex prog w A true fin Q (vs.zip us) i s
  | _, _, _, _, _, .nil, .nil, hf, h => by subst hf; exact h
  | _, _, _, _, _, .nil, .cons _ _ _, hf, h => by
    subst hf
    refine kat_nil ?_
    rw [decide_eq_true (by simp)]; exact h
  | _, _, _, _, _, .cons _ _ _, .nil, hf, h => by
    subst hf
    refine kat_nil ?_
    rw [decide_eq_false (by simp)]; exact h
  | _, _, _, _, i, .cons x t r, .cons y t' r', hf, h => by
    refine kat_cons (wpAny_eqBool_int ?_)
    have h : Q (if x = y then ltK _ _ else decide (x < y)) s := h
    by_cases hxy : x = y
    · rw [if_pos hxy] at h
      rw [beq_iff_eq.mpr hxy]
      refine kat_yes (lex_ok r r' ?_ h)
      rw [hf]; simp
    · rw [if_neg hxy] at h
      rw [beq_eq_false_iff_ne.mpr hxy]
      refine kat_no ?_
      cases (true && i == 0) with
      | true => exact oneLt_int h
      | false => exact kat_one _ _ (_root_.PySem.P.lt_int h)
theorem ask_ok {prog : Program} {w : World} {s : Shared} {ks : List Value} {kk : List (List Int)} (hk : ∀ (i : Nat), i < ks.length → KeyAt s.heap (ks.getD i Value.none) (kk.getD i [])) {i j : Nat} {K : Bool → Shared → Prop} (hi : i < ks.length) (hj : j < ks.length) (h : K (ltK (kk.getD i []) (kk.getD j [])) s) :
    kas_ask prog w A (tuples' true) ks i j K s := by
  refine ob_EEEAA (hk i hi) fun a vs n e1 g1 I1 => ?_
  refine ob_EEEAA (hk j hj) fun b us n' e2 g2 I2 => ?_
  unfold kas_ask
  rw [e1, e2]
  exact kat_lt g1 rfl g2 rfl (lex_ok I1 I2 (by simp) h)
end
structure KS (C : Cx) (F : Fm) (m : Str → Option Value) (σ : Sg) (D K : Addr) (e1 : Nat) (σ' : Sg) (krs : List RV) (ks : List Value) (e : Nat) : Prop where
  r : Rel C F m σ'
  n : Nx (NL F) σ σ'
  hK : Held F σ' K (lstO ks e)
  hD : Held F σ' D (lstO [] e1)
  rk : VsRel C σ' krs ks
section
variable {C : Cx} {F : Fm} {V : Vm} {m : Str → Option Value} {σ σ₁ σ₂ : Sg} {U : UTy} {n : Nat} {Q : PV} {D K f : Addr} {e e1 : Nat} {krs : List RV} {ks : List Value} {E : Value → Shared → Prop} {A : Around}
theorem KS.step (c : KS C F m σ D K e1 σ₁ krs ks e) (r : Rel C F m σ₂) (x : Nx (NL F) σ₁ σ₂) : KS C F m σ D K e1 σ₂ krs ks e := ⟨r, c.n.trans x, c.hK.step x, c.hD.step x, c.rk.mono x.carry⟩
theorem KS.push (c : KS C F m σ D K e1 σ₁ krs ks e) (fK : σ.h.get? K = none) (ne : D ≠ K) {kv : RV} {k : Value} (hv : VRel C σ₁ kv k) (hl : ks.length < 64) {R : Shared → Prop} (h : ∀ s' e', KS C F m σ D K e1 (σ₁.at s') (krs ++ [kv]) (ks ++ [k]) e' → Carry σ₁ (σ₁.at s') → R s') :
    wpAny C.M A (Builtin.List.listUpdate (.ref K) (·.push k)) (fun z_ s' => R s') E σ₁.s := by
  have ea : ks.toArray.push k = (ks ++ [k]).toArray := by simp
  refine listUpdate_at c.hK.std.2.2 rfl ?_ (by rw [List.size_toArray, sizeLine_eq]; omega) (by rw [ea, List.size_toArray, sizeLine_eq, List.length_append]; simp; omega)
  have g := get?_update_seq c.hK.std.2.2 (·.push k)
  rw [ea] at g
  have T : Turned C F m σ₁ K { σ₁.s with heap := σ₁.h.update K (Obj.mapSeq (·.push k)), toks := σ₁.s.toks } := c.hK.turn c.r (lst_idle _ _).nf fun b x hb e => (Heap.SameBut.update σ₁.h K _).extBut b x hb e
  exact h _ _ ⟨T.r, c.n.tick fK T.but T.sm, c.hK.now g, c.hD.tick T ne, (c.rk.mono T.c).append (.cons (hv.mono T.c) .nil)⟩ T.c
theorem keys_ok {x : String} {Ar : Arguments} {body : Expr} {sc : Scope} {b : RE} {kq : PL} {step : Value → PUnit → Sem (ForInStep PUnit)} (hb : Ok C U n b) (hn : F.n = n) (hd : F.d = 1) (N : Now C F V m σ) (h1 : lam1 x Ar = true) (S : LmOk V.ns x sc) (hm : mtE sc.names body b = true)
    (hL : LmAt V F σ Ar body sc f) (fK : σ.h.get? K = none) (ne : D ≠ K)
    (hs : ∀ u s (R : Shared → Prop), wpAny C.M F.A.in1.in1 (call (.ref f) [u]) (fun k s' => wpAny C.M F.A.in1.in1 (Builtin.List.listUpdate (.ref K) (·.push k)) (fun z_ s'' => R s'') E s') (fun z_ z_ => False) s → wpAny C.M F.A.in1.in1 (step u ⟨⟩) (fun r s' => r = .yield ⟨⟩ ∧ R s') E s) :
    ∀ (us : List RV) (vs : List Value) (krs : List RV) (ks : List Value) (e : Nat) (σ₁ : Sg), VsRel C σ₁ us vs → KS C F m σ D K e1 σ₁ krs ks e → ks.length + vs.length < 64 → wpKeys (fun v H' k => wpE C.G U b (setL x v V.loc) H' k) us krs σ₁.H kq →
      wpAny C.M F.A.in1.in1 (forIn vs PUnit.unit step) (fun z_ s' => ∃ σ₂ krs' ks' e', σ₂.s = s' ∧ KS C F m σ D K e1 σ₂ krs' ks' e' ∧ kq krs' σ₂.H ∧ ks'.length = ks.length + vs.length) E σ₁.s
  | [], vs, krs, ks, e, σ₁, hv, c, hl, hw => by
    rw [hv.nil_inv, List.forIn_nil]
    exact wpAny_pure ⟨σ₁, krs, ks, e, rfl, c, hw, rfl⟩
  | u :: us, _, krs, ks, e, σ₁, hv, c, hl, hw => by
    (refine ob_EEAA (hv.cons_inv) fun v vs o1_ hv1 hvr => ?_; subst o1_)
    rw [List.length_cons] at hl
    rw [List.forIn_cons]
    have hw : wpE C.G U b (setL x u V.loc) σ₁.H (fun r H' => wpKeys (fun v H' k => wpE C.G U b (setL x v V.loc) H' k) us (krs ++ [r]) H' kq) := hw
    refine wpAny_bind (wpAny_mono (hs v σ₁.s (fun s' => ∃ σ₂ krs' ks' e', σ₂.s = s' ∧ KS C F m σ D K e1 σ₂ krs' ks' e' ∧ ks'.length = ks.length + 1 ∧ VsRel C σ₂ us vs ∧ wpKeys (fun v H' k => wpE C.G U b (setL x v V.loc) H' k) us krs' σ₂.H kq) ?_) (fun r s' hr => ?_) fun z_ z_ z => z)
    · refine lam_call hb hn hd (N.step c.r c.n) h1 S hm (hL.step c.n) hv1 hw fun k σ₂ q r₂ n₂ => ?_
      (revert q; refine ob_EAr fun kv q hkv => ?_)
      refine (c.step r₂ n₂).push fK ne hkv (by omega) fun s' e' c' cc => ?_
      exact ⟨_, _, _, _, rfl, c', by simp, hvr.mono (n₂.carry.trans cc), q⟩
    · (revert hr; refine ob_AEEEEAAAAr fun o1_ σ₂ krs' ks' e' o2_ c' hl' hv' hw' => ?_; subst o1_; subst o2_)
      refine wpAny_mono (keys_ok hb hn hd N h1 S hm hL fK ne hs us vs krs' ks' e' σ₂ hv' c' (by omega) hw') (fun z_ s'' h => ?_) fun z_ z_ z => z
      (revert h; refine ob_EEEEAAAr fun σ₃ a b d h1 h2 h3 h4 => ?_)
      exact ⟨σ₃, a, b, d, h1, h2, h3, by rw [h4, hl', List.length_cons]; omega⟩
end
end Mine
end
namespace Mine
open PySem PySem.W PySem.Spec PySem.Calls PyProof.Rows PySem.SeqAt
section
variable {C : Cx} {F : Fm} {V : Vm} {m : Str → Option Value} {σ σ₁ σ₂ : Sg} {U : UTy} {n : Nat} {Q : PV} {D K f : Addr} {e e1 : Nat} {krs : List RV} {ks : List Value} {E : Value → Shared → Prop} {A : Around}
def Sorted (C : Cx) (F : Fm) (m : Str → Option Value) (σ : Sg) (D : Addr) (H : RH) (out : List RV) (s' : Shared) : Prop :=
  ∃ σ₂ vs k, σ₂.s = s' ∧ σ₂.H = H ∧ Rel C F m σ₂ ∧ Nx (NL F) σ σ₂ ∧ Held F σ₂ D (lstO vs k) ∧ VsRel C σ₂ out vs
theorem tail_ok {st : SortSt} {out : List RV} {vs : List Value} (c : KS C F m σ D K e1 σ₁ krs ks e) (fK : σ.h.get? K = none) (fD : σ.h.get? D = none) (ne : D ≠ K) (hout : (arrOf st).map (·.2) = vs.toArray) (hf : failedOf st = none) (hv : VsRel C σ₁ out vs) (hz : vs.length < 64) (hkz : ks.length < 64)
    {P : PySem.Fin → Shared → Prop} (h : ∀ s', Sorted C F m σ D σ₁.H out s' → P (.done (.ret .none)) s') : wpAny C.M A (ksk_tail D false e1 (.ref K) st) P E σ₁.s := by
  unfold ksk_tail
  try dsimp only
  rw [hout, hf]
  have g := get?_update_seq c.hK.std.2.2 (fun z_ => (#[] : Array Value))
  have T : Turned C F m σ₁ K { σ₁.s with heap := σ₁.h.update K (Obj.mapSeq fun z_ => (#[] : Array Value)), toks := σ₁.s.toks } := c.hK.turn c.r (lst_idle _ _).nf fun b x hb e => (Heap.SameBut.update σ₁.h K _).extBut b x hb e
  refine wpAny_bind (listUpdate_at c.hK.std.2.2 rfl ?_ (by rw [List.size_toArray, sizeLine_eq]; omega) (Nat.zero_le _))
  refine wpAny_bind (wpAny_letGo ?_)
  have hD₁ := c.hD.tick T ne
  have n₁ := c.n.tick fK T.but T.sm
  refine wpAny_bind (seqEpoch_at hD₁.std.2.2 rfl ?_)
  refine wpAny_bind (listUpdate_at hD₁.std.2.2 rfl ?_ (Nat.zero_le _) (by simp only [Bool.false_eq_true, if_false]; rw [List.size_toArray, sizeLine_eq]; omega))
  simp only [bne_self_eq_false, Bool.false_eq_true, if_false]
  have g₂ := get?_update_seq hD₁.std.2.2 (fun z_ => vs.toArray)
  have T₂ : Turned C F m (σ₁.at { σ₁.s with heap := σ₁.h.update K (Obj.mapSeq fun z_ => (#[] : Array Value)), toks := σ₁.s.toks }) D { σ₁.s with heap := (σ₁.h.update K (Obj.mapSeq fun z_ => (#[] : Array Value))).update D (Obj.mapSeq fun z_ => vs.toArray), toks := σ₁.s.toks } :=
    hD₁.turn (σ := σ₁.at { σ₁.s with heap := σ₁.h.update K (Obj.mapSeq fun z_ => (#[] : Array Value)), toks := σ₁.s.toks }) T.r (lst_idle _ _).nf fun b x hb e => (Heap.SameBut.update _ D _).extBut b x hb e
  refine wpAny_pure (h _ ⟨σ₁.at { σ₁.s with heap := (σ₁.h.update K (Obj.mapSeq fun z_ => (#[] : Array Value))).update D (Obj.mapSeq fun z_ => vs.toArray), toks := σ₁.s.toks }, vs, _, rfl, rfl, T₂.r, n₁.tick fD T₂.but T₂.sm, hD₁.now g₂, (hv.mono T.c).mono T₂.c⟩)
theorem vs_pick {us : List RV} {vs : List Value} (h : VsRel C σ us vs) : ∀ (l : List Nat), VsRel C σ (l.map fun i => us.getD i .none) (l.map fun i => vs.getD i Value.none)
  | [] => .nil
  | i :: l => by
    refine .cons (show VRel C σ (us.getD i .none) (vs.getD i Value.none) from ?_) (vs_pick h l)
    cases e : us[i]? with
    | none =>
      have hl := h.length
      have e' : vs[i]? = none := by rw [List.getElem?_eq_none_iff] at e ⊢; omega
      rw [List.getD_eq_getElem?_getD, List.getD_eq_getElem?_getD, e, e']; exact .none
    | some u =>
      refine ob_EA (h.get i u e) fun v e' hv => ?_
      rw [List.getD_eq_getElem?_getD, List.getD_eq_getElem?_getD, e, e']; exact hv
theorem snds_same {ks vs : List Value} (hl : ks.length = vs.length) : (ks.toArray.zip vs.toArray).map (·.2) = vs.toArray := by
  apply Array.toList_inj.mp
  rw [Array.toList_map, Array.toList_zip]
  show (ks.zip vs).map (·.2) = vs
  exact List.map_snd_zip (by omega)
theorem end_ok {us : List RV} {vs : List Value} {kk : List (List Int)} {out : List RV} (ik : C.K.In σ₁.h) (c : KS C F m σ D K e1 σ₁ krs ks e) (fK : σ.h.get? K = none) (fD : σ.h.get? D = none) (ne : D ≠ K) (hv : VsRel C σ₁ us vs) (hl : ks.length = vs.length) (h64 : vs.length < 64)
    (hk : keysP krs = some kk) (ha : kk.all (fun k => !k.isEmpty) = true) (ho : sortP kk us = some out) {P : PySem.Fin → Shared → Prop} (h : ∀ s', Sorted C F m σ D σ₁.H out s' → P (.done (.ret .none)) s') :
    wpAny C.M A (ksk_end D false vs.toArray e1 (.ref K) ks.toArray) P E σ₁.s := by
  have step : ∀ t : Sem PySem.Fin, wpAny C.M A t P E σ₁.s → wpAny C.M A (if false = true then (do let _ ← rule "list.sort.reverse"; t) else t) P E σ₁.s := fun t ht => by
    rw [if_neg Bool.false_ne_true]; exact ht
  have ho : (if us.length < 2 then some us else (kasEv us.length (fun i j => ltK (kk.getD i []) (kk.getD j [])) (kas_sort us.length)).map fun p => p.toList.map fun i => us.getD i .none) = some out := ho
  have hlu := hv.length
  unfold ksk_end
  try dsimp only
  refine step _ ?_
  by_cases h2 : us.length < 2
  · rw [if_pos h2] at ho
    cases ho
    have hn2 : vs.toArray.size < 2 := by rw [List.size_toArray]; omega
    rw [if_pos hn2, if_pos hn2]
    refine wpAny_bind (wpAny_pure ?_)
    refine wpAny_bind ?_
    rw [StateT.run_pure]
    refine wpAny_pure ?_
    simp only [Bool.false_eq_true, if_false]
    exact tail_ok c fK fD ne (snds_same hl) rfl hv h64 (by omega) h
  · rw [if_neg h2] at ho
    (refine ob_EA (map_of ho) fun p hp o1_ => ?_; subst o1_)
    have hn2 : ¬ vs.toArray.size < 2 := by rw [List.size_toArray]; omega
    rw [if_neg hn2, if_neg hn2]
    refine ob_EAA (keys_tups ik c.rk hk ha) fun fs t1 t2 t3 => ?_
    refine ob_A (keys_at ik c.rk hk) fun z_ ka => ?_
    refine wpAny_bind (kat_kind (T := .type "int") t1 (by omega) (fun v hv => by (refine ob_EE (t3 v hv) fun i t o1_ => ?_; subst o1_); exact Looks.of_pure rfl) rfl ?_)
    have run : (kas_sort vs.length).kasWp (kas_ask C.prog C.w A (tuples' true) ks) (fun q s' => q = p ∧ s' = σ₁.s) σ₁.s := by
      rw [hlu] at hp
      exact kas_go (n := vs.length) (lt := fun i j => ltK (kk.getD i []) (kk.getD j [])) (fun i j K' hi hj hK => ask_ok ka (by omega) (by omega) hK) _ hp ⟨rfl, rfl⟩
    simp only [Bool.false_eq_true, if_false]
    refine wpAny_bind (wpAny_mono (kat_run (Q := fun st' s' => arrOf st' = p.map (kas_item (ks.toArray.zip vs.toArray)) ∧ failedOf st' = none ∧ p.size = vs.length ∧ s' = σ₁.s) hl (by omega) h64 (fun q st' s' a1 a2 a3 a4 => by (revert a4; refine ob_Ar fun o1_ o2_ => ?_; subst o1_; subst o2_); exact ⟨a2, a3, a1, rfl⟩) run) (fun r s' hr => ?_) fun z_ z_ x => x)
    obtain ⟨⟨⟩, st'⟩ := r
    (revert hr; refine ob_AAAr fun b1 b2 b3 o1_ => ?_; subst o1_)
    exact tail_ok c fK fD ne (kat_snds hl b1) b2 (vs_pick hv _) (by rw [List.length_map, Array.length_toList, b3]; exact h64) (by omega) h
end
section
variable {prog : Program} {w : World} {A : Around} {E : Value → Shared → Prop} {s : Shared}
theorem collect_range {Q : List Value → Shared → Prop} {r : Addr} {a b c : Int} {t u v : Tok} {n : Nat} (hh : A.handled = none) (hr : IsRange s.heap r a b c t u v) (hsmall : Builtin.Range.small a b c = true)
    (hn : Builtin.Range.rangeSize a b c = n) (hlen : n ≤ 2 ^ 24)
    (h : ∀ h' tk acc', (∀ b o, s.heap.get? b = some o → h'.get? b = some o) → ItemsOf (fun i v => ∃ t, v = .int (a + i * c) t) acc' n → Q acc'.toList { s with heap := h', toks := tk }) :
    wpAny (model prog w) A (collect (.ref r)) Q E s := by
  unfold collect
  refine wpAny_bind (wpAny_runValue (codeAny_builtin entry_proto_collect' ?_))
  rw [Around.under_plainId PySem.F.plain_proto_collect _]
  show wpAny _ A.in1 (newList [] >>= fun l => again (.builtin "list.__iadd__" ⟨[l, .ref r], []⟩)) _ _ s
  refine wpAny_bind (wpAny_newObj_type ?_)
  refine wpAny_pure ⟨plainId_quiet PySem.F.plain_list_iadd _, codeAny_builtin entry_list_iadd' ?_⟩
  rw [Around.under_plainId PySem.F.plain_list_iadd _]
  have hS₁ : (s.heap.push { cls := .type "list", data := .seq ([] : List Value).toArray }).get? s.heap.objs.size = some { cls := .type "list", data := .seq #[] } := Heap.get?_push_size _ rfl
  show wpAny _ A.in1 (Builtin.List.listExtendWith (.ref s.heap.objs.size) (.ref r) (.ref s.heap.objs.size)) _ _ _
  have key := wpAny_extend_range (prog := prog) (w := w) (A := A) (s := { s with heap := s.heap.push { cls := .type "list", data := .seq ([] : List Value).toArray } })
    (R := fun (q : Result) (s' : Shared) => ∃ (h' : Heap) (tk : Nat) (acc' : Array Value) (c' : Nat), q = .ok (.ret (.ref s.heap.objs.size)) ∧ s' = { s with heap := h', toks := tk } ∧
      (∀ b o, s.heap.get? b = some o → h'.get? b = some o) ∧ h'.get? s.heap.objs.size = some { cls := .type "list", dict := none, data := .seq acc' c', slots := #[] } ∧ ItemsOf (fun i v => ∃ t, v = .int (a + i * c) t) acc' n)
    hh (Heap.get?_push_of_some _ hr) hsmall hn hlen s.heap.objs.size (.ref s.heap.objs.size) 0 hS₁
    (fun h' tk acc' c' hk hS' hacc => ⟨h', tk, acc', c', rfl, rfl, fun b o e => hk b o (Nat.ne_of_lt (Heap.lt_size e)) (Heap.get?_push_of_some _ e), hS', hacc⟩)
  refine wpAny_mono key (fun fin s' x => ?_) fun e s' x => ?_
  · cases fin with
    | done f =>
      (revert x; refine ob_EEEEAAAAr fun h' tk acc' c' e o1_ hk hS' hacc => ?_; subst o1_)
      cases e
      show wpAny _ A (load s.heap.objs.size >>= _) _ _ _
      refine wpAny_bind (wpAny_load hS' ?_)
      exact wpAny_pure (h h' tk acc' hk hacc)
    | again c₁ =>
      refine ⟨x.1, codeAny_mono x.2 fun q s₂ y => ?_⟩
      (revert y; refine ob_EEEEAAAAr fun h' tk acc' c' o1_ o2_ hk hS' hacc => ?_; subst o1_; subst o2_)
      show wpAny _ A (load s.heap.objs.size >>= _) _ _ _
      refine wpAny_bind (wpAny_load hS' ?_)
      exact wpAny_pure (h h' tk acc' hk hacc)
  · (revert x; refine ob_EEEEAr fun z_ z_ z_ z_ e' z_ => ?_)
    cases e'
end
section
variable {C : Cx} {F : Fm} {V : Vm} {m : Str → Option Value} {σ σ₁ σ₂ : Sg} {U : UTy} {n : Nat} {Q : PV} {D K f : Addr} {e e1 : Nat} {E : Value → Shared → Prop} {A : Around}
theorem src_collect (hh : A.handled = none) (r : Rel C F m σ) {v : RV} {u : Value} {us : List RV} (hv : VRel C σ v u) (hs : sortSrc σ.H v = some us) (h64 : us.length < 64) {R : List Value → Shared → Prop}
    (h : ∀ h' tk vs, Keep σ.h h' → VsRel C σ us vs → R vs { σ.s with heap := h', toks := tk }) : wpAny C.M A (collect u) R E σ.s := by
  have hs : (match lstAt σ.H v with
    | some l => some l.2
    | none => (asRg v).bind fun r => if r.2.2 = 1 ∧ Builtin.Range.small r.1 r.2.1 r.2.2 = true then some (rngL r.1 r.2.1 r.2.2) else none) = some us := hs
  cases hl : lstAt σ.H v with
  | some p =>
    rw [hl] at hs
    cases hs
    refine ob_A (lstAt_of hl) fun e hi => ?_
    rw [e] at hv
    (refine ob_EA (hv.ref_inv) fun a' o1_ ha => ?_; subst o1_)
    refine ob_EEAA (r.listAt hi ha) fun vs k R1 z_ g => ?_
    have hlen := R1.length
    refine collect_list (isList_of g) (h _ σ.s.toks vs (fun a o g' => ?_) R1) (by rw [sizeLine_eq]; omega)
    have hne := Nat.ne_of_lt (Heap.lt_size g')
    exact (Heap.SameBut.update _ _ _).extBut a o hne (Heap.get?_push_of_some _ g')
  | none =>
    rw [hl] at hs
    obtain ⟨⟨x, y, c⟩, hg, hs⟩ := bind_of hs
    (refine ob_A (if_of hs) fun o1_ hs => ?_; revert o1_; refine ob_Ar fun h1 h2 => ?_)
    have h1 : c = 1 := h1
    subst h1
    rw [asRg_of hg] at hv
    (refine ob_EEEEA (hv.rng_inv) fun a' t1 t2 t3 o1_ fz => ?_; subst o1_)
    have w2 : Builtin.Range.small x y 1 = true := h2
    have hs : rngL x y 1 = us := hs
    subst hs
    rw [rngL_len] at h64
    refine collect_range hh fz.2 w2 rangeSize_one (show (y - x).toNat ≤ 2 ^ 24 by omega) fun h' tk acc' hk hacc => h h' tk _ hk ?_
    refine vs_of_get (by rw [rngL_len, Array.length_toList]; exact hacc.1.symm) fun j u v e e' => ?_
    rw [rngL_get] at e
    by_cases h : (j : Int) < y - x
    · rw [if_pos h] at e
      cases e
      (refine ob_E (hacc.2 j v (by simpa using e')) fun t o1_ => ?_; subst o1_)
      have : x + (j : Int) * 1 = x + j := by omega
      rw [this]
      exact .int _ _
    · rw [if_neg h] at e; cases e
theorem take_list (r : Rel C F m σ₂) (x : Nx (NL F) σ σ₂) (fD : σ.h.get? D = none) {ws : List Value} {kk : Nat} {acc : List RV} (hD : Held F σ₂ D (lstO ws kk)) (z : VsRel C σ₂ acc ws) : Rel C F m (σ₂.new [D] (.list acc) σ₂.s) ∧ Nx (NL F) σ (σ₂.new [D] (.list acc) σ₂.s) := by
  have hb : ∀ a ∈ [D], ∀ o', fixd o' → ¬ σ₂.h.get? a = some o' := fun a ha o' hf g' => by
    rw [List.mem_singleton] at ha
    rw [ha, hD.std.2.2] at g'
    cases g'
    exact (lst_idle ws kk).nf hf
  have c₂ : Carry σ₂ (σ₂.new [D] (.list acc) σ₂.s) := new_carry (fun z_ z_ g => g) hb
  refine ⟨r.take (fun z_ z_ g => g) (by simp) (fun a ha => by rw [List.mem_singleton] at ha; rw [ha]; exact hD.std.1) (fun a ha => by rw [List.mem_singleton] at ha; rw [ha]; exact ⟨hD.low, hD.std.2.1⟩) hb (.list hD.std.2.2 (z.mono c₂)),
    ⟨fun i b e => ext_new [D] _ (x.ext i b e), fun a ha => ?_, x.liv, x.frm, x.sm, x.hx.trans (Hx.snoc _ _)⟩⟩
  rcases own_new.mp ha with ha | ha
  · exact x.new a ha
  · rw [List.mem_singleton] at ha
    rw [ha]; exact .inr fD
abbrev keyEnd (us : List RV) (Q : PV) : PL := fun ks H₂ => optwp (keysP ks) fun kk => kk.all (fun k => !k.isEmpty) = true ∧ optwp (sortP kk us) fun l' => Q (.ref H₂.length) (H₂ ++ [.list l'])
theorem tree_ok {x : String} {Ar : Arguments} {body : Expr} {sc : Scope} {b : RE} {us : List RV} {vs : List Value} {k0 : Nat} (hb : Ok C U n b) (hn : F.n = n) (hd : F.d = 1) (N : Now C F V m σ) (h1 : lam1 x Ar = true) (S : LmOk V.ns x sc) (hm : mtE sc.names body b = true)
    (hL : LmAt V F σ Ar body sc f) (r₁ : Rel C F m σ₁) (n₁ : Nx (NL F) σ σ₁) (hH : σ₁.H = σ.H) (hD : Held F σ₁ D (lstO vs k0)) (fD : σ.h.get? D = none) (hv : VsRel C σ us vs) (h64 : vs.length < 64)
    (hw : wpKeys (fun v H' k => wpE C.G U b (setL x v V.loc) H' k) us [] σ.H (keyEnd us Q)) {P : PySem.Fin → Shared → Prop} (h : ∀ s' H₂ out, Sorted C F m σ D H₂ out s' → Q (.ref H₂.length) (H₂ ++ [.list out]) → P (.done (.ret .none)) s') :
    wpAny C.M F.A.in1.in1 (ksk_tree D (.ref f) false) P E σ₁.s := by
  unfold ksk_tree
  refine wpAny_bind (listItems_at hD.std.2.2 rfl ?_)
  refine wpAny_bind (listUpdate_at hD.std.2.2 rfl ?_ (by rw [List.size_toArray, sizeLine_eq]; omega) (Nat.zero_le _))
  have g := get?_update_seq hD.std.2.2 (fun z_ => (#[] : Array Value))
  have T : Turned C F m σ₁ D { σ₁.s with heap := σ₁.h.update D (Obj.mapSeq fun z_ => (#[] : Array Value)), toks := σ₁.s.toks } := hD.turn r₁ (lst_idle _ _).nf fun b x hb e => (Heap.SameBut.update σ₁.h D _).extBut b x hb e
  have n₂ := n₁.tick fD T.but T.sm
  refine ob_E ((⟨_, hD.now g⟩ : ∃ e1, Held F (σ₁.at { σ₁.s with heap := σ₁.h.update D (Obj.mapSeq fun z_ => (#[] : Array Value)), toks := σ₁.s.toks }) D (lstO [] e1))) fun e1 hD₂ => ?_
  refine wpAny_bind (seqEpoch_at hD₂.std.2.2 rfl ?_)
  refine wpAny_bind (wpAny_newTuple ?_ (by show vs.length ≤ _; rw [sizeLine_eq]; omega))
  refine ob_AAA (push_held (σ := σ₁.at { σ₁.s with heap := σ₁.h.update D (Obj.mapSeq fun z_ => (#[] : Array Value)), toks := σ₁.s.toks }) (o := tupO vs 0) T.r rfl (t := σ₁.s.toks)) fun r₃ n₃ z_ z_ => ?_
  have hD₃ := hD₂.step n₃
  have n₃' := n₂.trans n₃
  refine wpAny_bind (wpAny_newList ?_ (Nat.zero_le _))
  refine wpAny_holding ?_
  generalize hσ : (σ₁.at { σ₁.s with heap := σ₁.h.update D (Obj.mapSeq fun z_ => (#[] : Array Value)), toks := σ₁.s.toks }).at { σ₁.s with heap := (σ₁.h.update D (Obj.mapSeq fun z_ => (#[] : Array Value))).push (tupO vs 0), toks := σ₁.s.toks } = σ₃ at r₃ n₃ hD₃ n₃'
  have hs₃ : ({ σ₁.s with heap := (σ₁.h.update D (Obj.mapSeq fun z_ => (#[] : Array Value))).push (tupO vs 0) } : Shared) = σ₃.s := by rw [← hσ]
  have hH₃ : σ₃.H = σ.H := by rw [← hσ]; exact hH
  show wpAny C.M F.A.in1.in1 (ksk_rest D (.ref f) false vs.toArray e1 (.ref ({ σ₁.s with heap := (σ₁.h.update D (Obj.mapSeq fun z_ => (#[] : Array Value))).push (tupO vs 0) } : Shared).heap.objs.size)) P E
    { ({ σ₁.s with heap := (σ₁.h.update D (Obj.mapSeq fun z_ => (#[] : Array Value))).push (tupO vs 0) } : Shared) with heap := ({ σ₁.s with heap := (σ₁.h.update D (Obj.mapSeq fun z_ => (#[] : Array Value))).push (tupO vs 0) } : Shared).heap.push (lstO [] 0) }
  rw [hs₃]
  refine ob_AAA (push_held (σ := σ₃) (o := lstO [] 0) r₃ rfl (t := σ₃.s.toks)) fun r₄ n₄ hK fK₃ => ?_
  have fK := n₃'.fresh r₃ fK₃
  have ne : D ≠ σ₃.h.objs.size := Nat.ne_of_lt (Heap.lt_size hD₃.std.2.2)
  have n₄' := n₃'.trans n₄
  have hD₄ := hD₃.step n₄
  show wpAny C.M F.A.in1.in1 (ksk_rest D (.ref f) false vs.toArray e1 (.ref σ₃.h.objs.size)) P E (σ₃.at { σ₃.s with heap := σ₃.h.push (lstO [] 0), toks := σ₃.s.toks }).s
  unfold ksk_rest
  refine wpAny_bind (wpAny_rule ?_)
  rw [List.forIn_toArray]
  refine wpAny_bind (wpAny_mono (keys_ok (kq := keyEnd us Q) (K := σ₃.h.objs.size) (e1 := e1) hb hn hd N h1 S hm hL fK ne (fun u s R hx => ?_) us vs [] [] 0 (σ₃.at { σ₃.s with heap := σ₃.h.push (lstO [] 0), toks := σ₃.s.toks }) (hv.mono n₄'.carry) ⟨r₄, n₄', hK, hD₄, .nil⟩ (by simpa using h64) (by rw [hH₃]; exact hw)) (fun z_ s' hd' => ?_) fun z_ z_ x => x)
  · refine wpAny_bind (wpAny_attempt (wpAny_mono hx (fun k s'' hk => ?_) fun z_ z_ hF => hF.elim))
    try dsimp only
    exact wpAny_bind (wpAny_mono hk (fun z_ s3 h3 => wpAny_pure ⟨rfl, h3⟩) fun z_ z_ z => z)
  · (revert hd'; refine ob_EEEEAAAr fun σ₅ krs ks e' o1_ c q hlen => ?_; subst o1_)
    try dsimp only
    refine ob_EA (opt_of q) fun kk hkk q => ?_
    refine ob_EA (opt_of q.2) fun out hout q2 => ?_
    refine wpAny_bind (listItems_at c.hK.std.2.2 rfl ?_)
    exact end_ok (N.a.inK c.r) c fK fD ne (hv.mono c.n.carry) (by simpa using hlen) h64 hkk q.1 hout fun s' hs' => h s' _ _ hs' q2
theorem sorted_by {x : String} {Ar : Arguments} {body : Expr} {sc : Scope} {b : RE} {v : RV} {u : Value} {us : List RV} (hb : Ok C U n b) (hn : F.n = n) (hd : F.d = 1) (N : Now C F V m σ) (h1 : lam1 x Ar = true) (S : LmOk V.ns x sc) (hm : mtE sc.names body b = true)
    (hL : LmAt V F σ Ar body sc f) (hu : VRel C σ v u) (hs : sortSrc σ.H v = some us) (h64 : us.length < 64) (hw : wpKeys (fun v H' k => wpE C.G U b (setL x v V.loc) H' k) us [] σ.H (keyEnd us Q)) :
    Ev C F m σ (call (.builtin "sorted") [u] [(Str.ofString "key", .ref f)]) (EP C Q) := by
  intro P E hP
  refine call_function_entry_kw kind_sorted plain_sorted entry_sorted (ksk_s1 _ _) ?_
  unfold Builtin.«sorted»
  refine wpAny_bind (m := checkCount "sorted" 1 1 _) (wpAny_pure ?_)
  refine wpAny_bind (src_collect (A := F.A.in1) N.a.hd N.r hu hs h64 fun h' tk vs hk hv => ?_)
  have hlen := hv.length
  refine wpAny_bind (wpAny_newList ?_ (by rw [sizeLine_eq]; omega))
  have r₀ : Rel C F m (σ.at { σ.s with heap := h', toks := tk }) := N.r.keep hk
  have n₀ : Nx (NL F) σ (σ.at { σ.s with heap := h', toks := tk }) := Nx.keep hk ⟨rfl, rfl, rfl⟩
  refine ob_AAA (push_held (σ := σ.at { σ.s with heap := h', toks := tk }) (o := lstO vs 0) r₀ rfl (t := tk)) fun r₁ n₁ hD fD₀ => ?_
  have fD := n₀.fresh r₀ fD₀
  refine wpAny_bind (wpAny_holding (wpAny_call_entry_kw PyProof.Rows.slot_list_sort ⟨_, hD.std.2.2, rfl⟩ PyProof.Rows.entry_list_sort ?_ (ksk_l1 _ _)))
  show wpAny C.M F.A.in1.in1 (Builtin.«list.sort» ⟨[.ref h'.objs.size], [(Str.ofString "key", .ref f)]⟩) _ _ _
  rw [ksk_t1]
  refine tree_ok (σ₁ := (σ.at { σ.s with heap := h', toks := tk }).at { σ.s with heap := h'.push (lstO vs 0), toks := tk }) hb hn hd N h1 S hm hL r₁ (n₀.trans n₁) rfl hD fD hv (by omega) hw fun s' H₂ out hS q => ⟨.none, rfl, wpAny_pure ⟨_, rfl, ?_⟩⟩
  (revert hS; refine ob_EEEAAAAAr fun σ₂ ws k o1_ o2_ r₂ n₂ hD₂ hv₂ => ?_; subst o1_; subst o2_)
  refine ob_A (take_list r₂ n₂ fD hD₂ hv₂) fun r₃ n₃ => ?_
  exact hP _ (σ₂.new [h'.objs.size] (.list out) σ₂.s) ⟨_, q, .ref (adr_new r₂ _ _ _)⟩ r₃ n₃
theorem src_set {H : RH} {t : Nat} {v : RV} (ht : tabAt H t = some ()) (b : Bool) : sortSrc (H.set t (.tab b)) v = sortSrc H v := by
  have e : lstAt (H.set t (.tab b)) v = lstAt H v := by
    refine ob_EA (bind_of ht) fun b' h1 z_ => ?_
    refine ob_EA (bind_of h1) fun o h2 h3 => ?_
    show ((asR v).bind fun i => ((H.set t (.tab b))[i]?).bind fun o => some (i, o)).bind _ = ((asR v).bind fun i => (H[i]?).bind fun o => some (i, o)).bind _
    cases hv : asR v with
    | none => rfl
    | some i =>
      simp only [Option.bind_some]
      by_cases hi : t = i
      · subst hi
        have hl : t < H.length := by
          by_cases h : t < H.length
          · exact h
          · rw [List.getElem?_eq_none (by omega)] at h2; cases h2
        rw [List.getElem?_set_self hl, h2]
        cases o <;> first | rfl | exact nos h3
      · rw [List.getElem?_set_ne hi]
  unfold sortSrc
  rw [e]
theorem isSorted_of {G : RProg} (h : isSortedB G = true) : globR G "sorted" = some (.bi "sorted") := by
  have h : (match globR G "sorted" with | some (.bi x) => x == "sorted" | _ => false) = true := h
  cases e : globR G "sorted" with
  | none => rw [e] at h; exact absurd h Bool.false_ne_true
  | some v =>
    rw [e] at h
    cases v <;> first | exact absurd h Bool.false_ne_true | (rw [eq_of_beq h])
theorem ev_sortk {e : Expr} {a b : RE} {x : String} {t : Nat} (h1 : Ok C U n a) (h2 : Ok C U n b) : EvOk C U n e (.sortk a x b t) := by
  intro F V m σ Q hn hm N hw P E hP
  (refine ob_EEEEEEEEAAAAAA (inv_sortk hm) fun np arg Ar body sc lp kp p o1_ ht hg ha hl1 hlm hbm => ?_; subst o1_)
  have S := lmOk_of hlm
  refine ob_A (N.e.tab t ht) fun hd z_ => ?_
  refine ob_A ((show isSortedB C.G = true ∧ wpE C.G U a V.loc σ.H (fun s H₁ => optwp (sortSrc H₁ s) fun l => optwp (tabAt H₁ t) fun z_ => l.length < 64 ∧ wpKeys (fun v H' k => wpE C.G U b (setL x v V.loc) H' k) l [] (H₁.set t (.tab true)) (keyEnd l Q)) from hw)) fun hso hw => ?_
  rw [arm_eval_Call_Name']
  have hmg : mtE V.ns (.Name (Str.ofString "sorted") np) (.glb "sorted") = true := by
    show ((23 : Nat) == 23 && (Str.ofString "sorted" == Str.ofString "sorted" && V.ns.lookup (Str.ofString "sorted") == some .globalImplicit && !dbg (Str.ofString "sorted"))) = true
    rw [hg]; decide +kernel
  refine wpAny_bind (ev_glb (U := U) (n := n) (Q := fun v H => v = .bi "sorted" ∧ H = σ.H) hn hmg N (by show optwp (globR C.G "sorted") _; rw [isSorted_of hso]; exact ⟨rfl, rfl⟩) _ _ fun fv σ₁ q r₁ n₁ => ?_)
  (revert q; refine ob_EAr fun z_ o1_ hfv => ?_; revert o1_; refine ob_Ar fun o2_ hH₁ => ?_; subst o2_)
  cases hfv
  have hes : mtEs V.ns [arg] [a] = true := by
    show (mtE V.ns arg a && true) = true
    rw [ha]; rfl
  rw [starEach_plain hes, backTo_plain]
  refine callWith_builtin_kwB (by rfl) (by rfl) (evalArgs_kwB (by rfl) ?_)
  refine evs_ok (rs := [a]) (es := [arg]) (Q := fun vs H => onewp vs fun v => optwp (sortSrc H v) fun l => optwp (tabAt H t) fun z_ => l.length < 64 ∧ wpKeys (fun v H' k => wpE C.G U b (setL x v V.loc) H' k) l [] (H.set t (.tab true)) (keyEnd l Q)) ⟨h1, trivial⟩ hn hes (N.step r₁ n₁) ?_ _ _ fun us σ₂ q r₂ n₂ => ?_
  · rw [hH₁]
    exact hw
  · (revert q; refine ob_EAr fun vs q hvs => ?_)
    (refine ob_EA (one_of q) fun v o1_ q => ?_; subst o1_)
    (refine ob_EA (hvs.one_inv) fun u o1_ hu => ?_; subst o1_)
    refine ob_EA (opt_of q) fun l hl q => ?_
    obtain ⟨⟨⟩, htb, h64, hk⟩ := opt_of q
    have N₂ := (N.step r₁ n₁).step r₂ n₂
    refine kws_cons (lam_ok N₂ ht hl1 S htb fun f σ₃ r₃ n₃ hH hL => kws_nil ?_)
    have hs₃ : sortSrc σ₃.H v = some l := by rw [hH, src_set htb]; exact hl
    exact (sorted_by h2 hn hd (N₂.step r₃ n₃) hl1 S hbm hL (hu.mono n₃.carry) hs₃ h64 (by rw [hH]; exact hk)).after ((n₁.trans n₂).trans n₃) hP
theorem sortOk : SortOk C U n := fun a x b t h1 h2 => ts_plain (fun e => ev_sortk h1 h2) (fun z_ z_ z_ z_ => rfl) fun ns e h => by
  (refine ob_EEEEEEEEA (inv_sortk h) fun z_ z_ z_ z_ z_ z_ z_ z_ o1_ z_ => ?_; subst o1_)
  exact fun z_ z_ => rfl
end
end Mine
namespace Mine
namespace Mo
open PySem PySem.W PySem.Calls PyProof.Rows PySem.SeqAt
theorem chk_s {p : Prop} {x y : Prop} (h : p ∧ x) (f : x → y) : p ∧ y := ⟨h.1, f h.2⟩
theorem opt_s {α : Type} {o : Option α} {k k' : α → Prop} (h : optwp o k) (f : ∀ x, k x → k' x) : optwp o k' := by
  cases o with
  | none => exact h
  | some x => exact f x h
theorem int2_s {a b : RV} {k k' : Int → Int → Prop} (h : int2wp a b k) (f : ∀ x y, k x y → k' x y) : int2wp a b k' := opt_s h fun x h => opt_s h fun y h => f x y h
theorem ite_s {c : Prop} [Decidable c] {a b A B : Prop} (h : if c then a else b) (x : a → A) (y : b → B) : if c then A else B := by
  by_cases hc : c
  · rw [if_pos hc] at h ⊢; exact x h
  · rw [if_neg hc] at h ⊢; exact y h
def SV (q : PV) (Q : PV) : Prop := ∀ v H, q v H → Q v H
def SB (q : PB) (Q : PB) : Prop := ∀ v H, q v H → Q v H
def SF (q : PF) (Q : PF) : Prop := ∀ f l H, q f l H → Q f l H
def SL (q : PL) (Q : PL) : Prop := ∀ v H, q v H → Q v H
def SU (UB : UTy) (U : UTy) : Prop := ∀ d args H q Q, UB d args H q → SV q Q → U d args H Q
section
variable {H : RH} {q : PV} {Q : PV} {a b : RV} {args : List RV}
theorem addS_s (h : addSwp a b H q) (s : SV q Q) : addSwp a b H Q := by
  have h : (match asS a with
    | some x => optwp (asS b) fun y => (x ++ y).length ≤ sizeLine ∧ q (.str (x ++ y)) H
    | none => optwp (lstAt H a) fun p => optwp (lstAt H b) fun p' => (p.2 ++ p'.2).length ≤ sizeLine ∧ q (.ref H.length) (H ++ [.list (p.2 ++ p'.2)])) := h
  show (match asS a with
    | some x => optwp (asS b) fun y => (x ++ y).length ≤ sizeLine ∧ Q (.str (x ++ y)) H
    | none => optwp (lstAt H a) fun p => optwp (lstAt H b) fun p' => (p.2 ++ p'.2).length ≤ sizeLine ∧ Q (.ref H.length) (H ++ [.list (p.2 ++ p'.2)]))
  cases e : asS a with
  | some x => rw [e] at h; exact opt_s h fun y h => chk_s h (s _ _)
  | none => rw [e] at h; exact opt_s h fun p h => opt_s h fun p' h => chk_s h (s _ _)
theorem bin_s {op : Operator} (h : binwp op a b H q) (s : SV q Q) : binwp op a b H Q := by
  cases op <;> first | exact absurd h id | skip
  · have h : (match asI a with | some _ => int2wp a b fun x y => q (.int (x + y)) H | none => addSwp a b H q) := h
    show (match asI a with | some _ => int2wp a b fun x y => Q (.int (x + y)) H | none => addSwp a b H Q)
    cases e : asI a with
    | some x => rw [e] at h; exact int2_s h fun x y h => s _ _ h
    | none => rw [e] at h; exact addS_s h s
  · exact int2_s h fun x y h => s _ _ h
  · exact int2_s h fun x y h => ⟨h.1, h.2.1, s _ _ h.2.2⟩
  · exact int2_s h fun x y h => chk_s h (s _ _)
  · exact int2_s h fun x y h => chk_s h (s _ _)
theorem src_s {H : RH} {v : RV} {q Q : Src → Prop} (h : srcwp H v q) (s : ∀ x, q x → Q x) : srcwp H v Q := by
  cases v <;> first | exact absurd h id | skip
  · exact s _ h
  · exact chk_s h (s _)
  · refine opt_s h fun o h => ?_
    cases o with
    | list vs => exact s _ h
    | dict es ep => exact absurd h id
    | inst c fs => exact absurd h id
    | tab b => exact absurd h id
    | set es ep t => exact ⟨h.1, fun l hl => s _ (h.2 l hl)⟩
theorem one_s {k k' : RV → Prop} (h : onewp args k) (f : ∀ v, k v → k' v) : onewp args k' := by
  cases args with
  | nil => exact h
  | cons v r =>
    cases r with
    | nil => exact f v h
    | cons _ _ => exact h
theorem bi_s {x : String} (h : biwp x args H q) (s : SV q Q) : biwp x args H Q := by
  unfold biwp at h
  unfold biwp
  refine ite_s h (fun h => ?_) fun h => ite_s h (fun h => ?_) fun h => ite_s h (fun h => ?_) fun h => ite_s h (fun h => ?_) id
  · refine one_s h fun v h => opt_s h fun n h => ?_
    exact ⟨h.1, s _ _ h.2⟩
  · exact one_s h fun v h => opt_s h fun n h => chk_s h (s _ _)
  · exact one_s h fun v h => opt_s h fun n h => s _ _ h
  · generalize intsP args = o at h ⊢
    rcases o with _ | _ | ⟨a, _ | ⟨b, _ | ⟨c, l⟩⟩⟩ <;> first | exact s _ _ h | exact one_s h fun v h => opt_s h fun n h => s _ _ h
theorem ty_s {x : String} (h : tywp x args H q) (s : SV q Q) : tywp x args H Q := by
  unfold tywp at h
  unfold tywp
  refine ite_s h (fun h => ?_) fun h => ite_s h (fun h => ?_) fun h => ite_s h (fun h => ?_) id
  · generalize intsP args = o at h ⊢
    rcases o with _ | _ | ⟨a, _ | ⟨b, _ | ⟨c, l⟩⟩⟩ <;> first | exact absurd h id | exact chk_s h (s _ _) | exact chk_s h fun h => chk_s h (s _ _)
  · cases args with
    | nil => exact s _ _ h
    | cons v r => exact one_s h fun v h => opt_s h fun l h => chk_s h (s _ _)
  · refine one_s h fun v h => ?_
    generalize asT v = o at h ⊢
    cases o with
    | some vs => exact s _ _ h
    | none => exact opt_s h fun p h => chk_s h (s _ _)
theorem mb_s {x : String} {o : RV} (h : mbwp x o args H q) (s : SV q Q) : mbwp x o args H Q := by
  unfold mbwp at h
  unfold mbwp
  refine ite_s h (fun h => ?_) fun h => ite_s h (fun h => ?_) fun h => ite_s h (fun h => ?_) id
  · exact one_s h fun v h => opt_s h fun n h => chk_s h (s _ _)
  · cases args with
    | nil => exact opt_s h fun x h => chk_s h (s _ _)
    | cons v r => exact absurd h id
  · exact one_s h fun v h => opt_s h fun n h => opt_s h fun z h => s _ _ h
end
section
variable {G : RProg} {UB : UTy} {U : UTy}
set_option tactic.hygienic true in
theorem call_s (hU : SU UB U) {f : RV} {args : List RV} {H : RH} {q : PV} {Q : PV} (h : callwp G UB f args H q) (s : SV q Q) : callwp G U f args H Q := by
  cases f <;> first | exact absurd h id | skip
  case fn x => exact opt_s h fun d h => hU _ _ _ _ _ h s
  case cls c => exact opt_s h fun d h => hU _ _ (H ++ [.inst c []]) _ _ h fun r H' h => ⟨h.1, s _ _ h.2⟩
  case bi x => exact bi_s h s
  case ty x => exact ty_s h s
theorem turns_s {turnb : RV → List RV → RH → PL → Prop} {turn : RV → List RV → RH → PL → Prop} (ht : ∀ v acc H k K, turnb v acc H k → SL k K → turn v acc H K) {sc : Src} :
    ∀ (n k : Nat) (acc : List RV) (H : RH) {q : PL} {Q : PL}, wpTurns turnb sc n k acc H q → SL q Q → wpTurns turn sc n k acc H Q
  | 0, _, _, _, _, _, h, _ => h
  | n + 1, k, acc, H, q, Q, h, s => opt_s h fun o h => by
    cases o with
    | none => exact s _ _ h
    | some v => exact ht _ _ _ _ _ h fun acc' H' h => chk_s h fun h => turns_s ht n (k + 1) acc' H' h s
theorem keys_s {keyb : RV → RH → PV → Prop} {key : RV → RH → PV → Prop} (hk : ∀ v H k K, keyb v H k → SV k K → key v H K) :
    ∀ (l acc : List RV) (H : RH) {q : PL} {Q : PL}, wpKeys keyb l acc H q → SL q Q → wpKeys key l acc H Q
  | [], _, _, _, _, h, s => s _ _ h
  | v :: vs, acc, H, q, Q, h, s => hk _ _ _ _ h fun r H' h => keys_s hk vs (acc ++ [r]) H' h s
abbrev DE (G : RProg) (UB : UTy) (U : UTy) (e : RE) : Prop := ∀ loc H q Q, wpE G UB e loc H q → SV q Q → wpE G U e loc H Q
abbrev DT (G : RProg) (UB : UTy) (U : UTy) (e : RE) : Prop := ∀ loc H q Q, wpT G UB e (fun l H' Q' => wpE G UB e l H' Q') loc H q → SB q Q → wpT G U e (fun l H' Q' => wpE G U e l H' Q') loc H Q
theorem pl {e : RE} (hb : ∀ loc H q, wpT G UB e (fun l H' Q' => wpE G UB e l H' Q') loc H q = wpE G UB e loc H fun v H₁ => optwp (truthR H₁ v) fun b => q b H₁)
    (hp : ∀ loc H Q, wpT G U e (fun l H' Q' => wpE G U e l H' Q') loc H Q = wpE G U e loc H fun v H₁ => optwp (truthR H₁ v) fun b => Q b H₁) (d : DE G UB U e) : DE G UB U e ∧ DT G UB U e := ⟨d, fun loc H q Q h s => by
  rw [hb] at h
  rw [hp]
  exact d _ _ _ _ h fun v H' h => opt_s h fun b h => s _ _ h⟩
mutual
theorem sX (hU : SU UB U) : (e : RE) → DE G UB U e ∧ DT G UB U e
  | .const v => pl (fun z_ z_ z_ => rfl) (fun z_ z_ z_ => rfl) fun loc H q Q h s => s _ _ h
  | .loc x => pl (fun z_ z_ z_ => rfl) (fun z_ z_ z_ => rfl) fun loc H q Q h s => opt_s h fun v h => s _ _ h
  | .glb x => pl (fun z_ z_ z_ => rfl) (fun z_ z_ z_ => rfl) fun loc H q Q h s => opt_s h fun v h => s _ _ h
  | .boolop b es => ⟨fun loc H q Q h s => sBool hU b es loc H q Q h s, fun loc H q Q h s => sTs hU b es _ _ _ _ h s⟩
  | .bin op a b => pl (fun z_ z_ z_ => rfl) (fun z_ z_ z_ => rfl) fun loc H q Q h s => (sX hU a).1 _ _ _ _ h fun x H₁ h => (sX hU b).1 _ _ _ _ h fun y H₂ h => bin_s h s
  | .not a => ⟨fun loc H q Q h s => (sX hU a).1 _ _ _ _ h fun x H₁ h => opt_s h fun b h => s _ _ h, fun loc H q Q h s => (sX hU a).2 _ _ _ _ h fun b H₁ h => s _ _ h⟩
  | .neg a => pl (fun z_ z_ z_ => rfl) (fun z_ z_ z_ => rfl) fun loc H q Q h s => (sX hU a).1 _ _ _ _ h fun x H₁ h => opt_s h fun i h => s _ _ h
  | .cond t a b => ⟨fun loc H q Q h s => (sX hU t).2 _ _ _ _ h fun c H₁ h => ite_s h (fun h => (sX hU a).1 _ _ _ _ h s) fun h => (sX hU b).1 _ _ _ _ h s, fun loc H q Q h s => (sX hU t).2 _ _ _ _ h fun c H₁ h => ite_s h (fun h => (sX hU a).2 _ _ _ _ h s) fun h => (sX hU b).2 _ _ _ _ h s⟩
  | .list es => pl (fun z_ z_ z_ => rfl) (fun z_ z_ z_ => rfl) fun loc H q Q h s => sEs hU es _ _ _ _ h fun vs H₁ h => chk_s h (s _ _)
  | .tup es => pl (fun z_ z_ z_ => rfl) (fun z_ z_ z_ => rfl) fun loc H q Q h s => sEs hU es _ _ _ _ h fun vs H₁ h => chk_s h (s _ _)
  | .dict0 => pl (fun z_ z_ z_ => rfl) (fun z_ z_ z_ => rfl) fun loc H q Q h s => h.elim
  | .comp1 elt x it ifs => pl (fun z_ z_ z_ => rfl) (fun z_ z_ z_ => rfl) fun loc H q Q h s => (sX hU it).1 _ _ _ _ h fun sv H₁ h => src_s h fun sc h => by
    (revert h; refine ob_Er fun nn h => ?_)
    refine ⟨nn, turns_s (fun v acc H' k K h s' => ?_) _ _ _ _ h fun vs H₂ h => s _ _ h⟩
    exact sIfs hU ifs _ _ _ _ h fun ok H₄ h => ite_s h (fun h => (sX hU elt).1 _ _ _ _ h fun r H₅ h => s' _ _ h) fun h => s' _ _ h
  | .comp2 elt x it y it2 ifs => pl (fun z_ z_ z_ => rfl) (fun z_ z_ z_ => rfl) fun loc H q Q h s => h.elim
  | .cmp a ops es => ⟨fun loc H q Q h s => (sX hU a).1 _ _ _ _ h fun v H₁ h => sCmp hU v ops es _ _ _ _ h s, fun loc H q Q h s => (sX hU a).1 _ _ _ _ h fun v H₁ h => sCmpT hU v ops es _ _ _ _ h s⟩
  | .call f args => pl (fun z_ z_ z_ => rfl) (fun z_ z_ z_ => rfl) fun loc H q Q h s => (sX hU f).1 _ _ _ _ h fun fv H₁ h => chk_s h fun h => sEs hU args _ _ _ _ h fun vs H₂ h => call_s hU h s
  | .meth o m args => pl (fun z_ z_ z_ => rfl) (fun z_ z_ z_ => rfl) fun loc H q Q h s => (sX hU o).1 _ _ _ _ h fun ov H₁ h => opt_s h fun k h => sEs hU args _ _ _ _ h fun vs H₂ h => by
    cases k with
    | own d => exact hU _ _ _ _ _ h s
    | blt id => exact mb_s h s
  | .attr o x => pl (fun z_ z_ z_ => rfl) (fun z_ z_ z_ => rfl) fun loc H q Q h s => (sX hU o).1 _ _ _ _ h fun ov H₁ h => opt_s h fun v h => s _ _ h
  | .sub o i => pl (fun z_ z_ z_ => rfl) (fun z_ z_ z_ => rfl) fun loc H q Q h s => (sX hU o).1 _ _ _ _ h fun ov H₁ h => (sX hU i).1 _ _ _ _ h fun iv H₂ h => opt_s h fun v h => s _ _ h
  | .sortk arg x body t => pl (fun z_ z_ z_ => rfl) (fun z_ z_ z_ => rfl) fun loc H q Q h s => chk_s h fun h => (sX hU arg).1 _ _ _ _ h fun sv H₁ h => opt_s h fun l h => opt_s h fun z_ h => chk_s h fun h =>
    keys_s (key := fun v H' k => wpE G U body (setL x v loc) H' k) (fun v H' k K h s' => (sX hU body).1 (setL x v loc) H' k K h s') _ _ (H₁.set t (.tab true)) h fun ks H₂ h => opt_s h fun kk h => chk_s h fun h => opt_s h fun l' h => s _ _ h
  | .rev o => pl (fun z_ z_ z_ => rfl) (fun z_ z_ z_ => rfl) fun loc H q Q h s => h.elim
  | .upto o k => pl (fun z_ z_ z_ => rfl) (fun z_ z_ z_ => rfl) fun loc H q Q h s => h.elim
  | .junk => pl (fun z_ z_ z_ => rfl) (fun z_ z_ z_ => rfl) fun loc H q Q h s => h
theorem sTs (hU : SU UB U) (b : Bool) : (es : List RE) → ∀ loc H q Q, wpTs G UB b es loc H q → SB q Q → wpTs G U b es loc H Q
  | [], loc, H, q, Q, h, s => s _ _ h
  | e :: es, loc, H, q, Q, h, s => (sX hU e).2 _ _ _ _ h fun c H₁ h => ite_s h (fun h => sTs hU b es _ _ _ _ h s) fun h => s _ _ h
theorem sIfs (hU : SU UB U) : (es : List RE) → ∀ loc H q Q, wpIfs G UB es loc H q → SB q Q → wpIfs G U es loc H Q
  | [], loc, H, q, Q, h, s => s _ _ h
  | e :: es, loc, H, q, Q, h, s => (sX hU e).2 _ _ _ _ h fun c H₁ h => ite_s h (fun h => sIfs hU es _ _ _ _ h s) fun h => s _ _ h
theorem sEs (hU : SU UB U) : (es : List RE) → ∀ loc H q Q, wpEs G UB es loc H q → SL q Q → wpEs G U es loc H Q
  | [], loc, H, q, Q, h, s => s _ _ h
  | e :: es, loc, H, q, Q, h, s => (sX hU e).1 _ _ _ _ h fun v H₁ h => sEs hU es _ _ _ _ h fun vs H₂ h => s _ _ h
theorem sBool (hU : SU UB U) (b : Bool) : (es : List RE) → ∀ loc H q Q, wpBool G UB b es loc H q → SV q Q → wpBool G U b es loc H Q
  | [], loc, H, q, Q, h, s => h
  | [e], loc, H, q, Q, h, s => (sX hU e).1 _ _ _ _ h fun v H₁ h => s _ _ h
  | e :: e' :: es, loc, H, q, Q, h, s => (sX hU e).1 _ _ _ _ h fun v H₁ h => opt_s h fun b' h => ite_s h (fun h => sBool hU b (e' :: es) _ _ _ _ h s) fun h => s _ _ h
theorem sCmp (hU : SU UB U) (v : RV) : (ops : List CmpOp) → (es : List RE) → ∀ loc H q Q, wpCmp G UB v ops es loc H q → SV q Q → wpCmp G U v ops es loc H Q
  | [], [], loc, H, q, Q, h, s => h
  | [], _ :: _, loc, H, q, Q, h, s => h
  | [_], [], loc, H, q, Q, h, s => h
  | _ :: _ :: _, [], loc, H, q, Q, h, s => h
  | [op], [e], loc, H, q, Q, h, s => (sX hU e).1 _ _ _ _ h fun u H₁ h => opt_s h fun b' h => s _ _ h
  | op :: op' :: ops, e :: es, loc, H, q, Q, h, s => (sX hU e).1 _ _ _ _ h fun u H₁ h => opt_s h fun b' h => ite_s h (fun h => sCmp hU u (op' :: ops) es _ _ _ _ h s) fun h => s _ _ h
  | [op], e :: e' :: es, loc, H, q, Q, h, s => (sX hU e).1 _ _ _ _ h fun u H₁ h => opt_s h fun b' h => ite_s h (fun h => sCmp hU u [] (e' :: es) _ _ _ _ h s) fun h => s _ _ h
theorem sCmpT (hU : SU UB U) (v : RV) : (ops : List CmpOp) → (es : List RE) → ∀ loc H q Q, wpCmpT G UB v ops es loc H q → SB q Q → wpCmpT G U v ops es loc H Q
  | [], [], loc, H, q, Q, h, s => h
  | [], _ :: _, loc, H, q, Q, h, s => h
  | [_], [], loc, H, q, Q, h, s => h
  | _ :: _ :: _, [], loc, H, q, Q, h, s => h
  | [op], [e], loc, H, q, Q, h, s => (sX hU e).1 _ _ _ _ h fun u H₁ h => opt_s h fun b' h => s _ _ h
  | op :: op' :: ops, e :: es, loc, H, q, Q, h, s => (sX hU e).1 _ _ _ _ h fun u H₁ h => opt_s h fun b' h => ite_s h (fun h => sCmpT hU u (op' :: ops) es _ _ _ _ h s) fun h => s _ _ h
  | [op], e :: e' :: es, loc, H, q, Q, h, s => (sX hU e).1 _ _ _ _ h fun u H₁ h => opt_s h fun b' h => ite_s h (fun h => sCmpT hU u [] (e' :: es) _ _ _ _ h s) fun h => s _ _ h
end
end
theorem turn_s {fl : RFl} {loc : Loc} {H : RH} {q : PF} {Q : PF} {again again' : Prop} (h : turnwp fl loc H q again) (s : SF q Q) (f : again → again') : turnwp fl loc H Q again' := by
  cases fl with
  | next => exact f h
  | cont => exact f h
  | brk => exact s _ _ _ h
  | ret r => exact s _ _ _ h
theorem for_s {bb : Loc → RH → PF → Prop} {bp : Loc → RH → PF → Prop} (hb : ∀ l H q Q, bb l H q → SF q Q → bp l H Q) {t : RTg} {sc : Src} :
    ∀ (n k : Nat) (loc : Loc) (H : RH) {q : PF} {Q : PF}, wpFor bb t sc n k loc H q → SF q Q → wpFor bp t sc n k loc H Q
  | 0, _, _, _, _, _, h, _ => h
  | n + 1, k, loc, H, q, Q, h, s => opt_s h fun o h => by
    cases o with
    | none => exact s _ _ _ h
    | some v => exact opt_s h fun l₁ h => hb _ _ _ _ h fun fl l₂ H₂ h => turn_s h s fun h => for_s hb n (k + 1) _ _ h s
theorem while_s {tb : Loc → RH → PB → Prop} {tp : Loc → RH → PB → Prop} {bb : Loc → RH → PF → Prop} {bp : Loc → RH → PF → Prop} (ht : ∀ l H q Q, tb l H q → SB q Q → tp l H Q) (hb : ∀ l H q Q, bb l H q → SF q Q → bp l H Q) :
    ∀ (n : Nat) (loc : Loc) (H : RH) {q : PF} {Q : PF}, wpWhile tb bb n loc H q → SF q Q → wpWhile tp bp n loc H Q
  | 0, _, _, _, _, h, _ => h
  | n + 1, loc, H, q, Q, h, s => ht _ _ _ _ h fun b H₁ h => ite_s h (fun h => hb _ _ _ _ h fun fl l₂ H₂ h => turn_s h s fun h => while_s ht hb n _ _ h s) fun h => s _ _ _ h
section
variable {G : RProg} {UB : UTy} {U : UTy}
mutual
theorem sS (hU : SU UB U) : (st : RT) → ∀ loc H q Q, wpS G UB st loc H q → SF q Q → wpS G U st loc H Q
  | .expr e, loc, H, q, Q, h, s => (sX hU e).1 _ _ _ _ h fun v H₁ h => s _ _ _ h
  | .ret (some e), loc, H, q, Q, h, s => (sX hU e).1 _ _ _ _ h fun v H₁ h => s _ _ _ h
  | .ret none, loc, H, q, Q, h, s => s _ _ _ h
  | .asg t e, loc, H, q, Q, h, s => (sX hU e).1 _ _ _ _ h fun v H₁ h => opt_s h fun l h => s _ _ _ h
  | .asgAttr o x e, loc, H, q, Q, h, s => (sX hU e).1 _ _ _ _ h fun v H₁ h => (sX hU o).1 _ _ _ _ h fun ov H₂ h => opt_s h fun l h => s _ _ _ h
  | .asgSub _ _ _, loc, H, q, Q, h, s => h.elim
  | .ite t a b, loc, H, q, Q, h, s => (sX hU t).2 _ _ _ _ h fun c H₁ h => ite_s h (fun h => sSs hU a _ _ _ _ h s) fun h => sSs hU b _ _ _ _ h s
  | .for_ t it body, loc, H, q, Q, h, s => (sX hU it).1 _ _ _ _ h fun sv H₁ h => src_s h fun sc h => Exists.elim h fun nn h => ⟨nn, for_s (fun l H q Q h s => sSs hU body l H q Q h s) _ _ _ _ h s⟩
  | .while_ _ _, loc, H, q, Q, h, s => h.elim
  | .try_ _, loc, H, q, Q, h, s => h.elim
  | .delSub _ _, loc, H, q, Q, h, s => h
  | .raise_, loc, H, q, Q, h, s => h
  | .brk, loc, H, q, Q, h, s => s _ _ _ h
  | .cont, loc, H, q, Q, h, s => s _ _ _ h
  | .pass, loc, H, q, Q, h, s => s _ _ _ h
theorem sSs (hU : SU UB U) : (ss : List RT) → ∀ loc H q Q, wpSs G UB ss loc H q → SF q Q → wpSs G U ss loc H Q
  | [], loc, H, q, Q, h, s => s _ _ _ h
  | st :: r, loc, H, q, Q, h, s => sS hU st _ _ _ _ h fun fl loc₁ H₁ h => by
    cases fl with
    | next => exact sSs hU r _ _ _ _ h s
    | cont => exact s _ _ _ h
    | brk => exact s _ _ _ h
    | ret r => exact s _ _ _ h
end
end
theorem sU (G : RProg) : ∀ n, SU (callU G n) (callU G n)
  | 0, d, args, H, q, Q, h, s => h
  | n + 1, d, args, H, q, Q, h, s => opt_s h fun loc h => sSs (sU G n) _ _ _ _ _ h fun fl l H₁ h => s _ _ h
end Mo
theorem wpE_mono {G : RProg} {n : Nat} {e : RE} {loc : Loc} {H : RH} {q Q : PV} (h : wpE G (callU G n) e loc H q) (s : ∀ v H', q v H' → Q v H') : wpE G (callU G n) e loc H Q := (Mo.sX (Mo.sU G n) e).1 _ _ _ _ h s
end Mine
namespace Mine
open PySem PySem.W PySem.Calls PyProof.Rows PySem.SeqAt
def Ext (H H' : RH) : Prop := ∀ (i : Nat) (o : RO), H[i]? = some o → H'[i]? = some o
theorem Ext.refl (H : RH) : Ext H H := fun z_ z_ e => e
theorem Ext.trans {a b c : RH} (x : Ext a b) (y : Ext b c) : Ext a c := fun i o e => y i o (x i o e)
theorem lt_of_get {H : RH} {i : Nat} {o : RO} (e : H[i]? = some o) : i < H.length := by
  by_cases h : i < H.length
  · exact h
  · rw [List.getElem?_eq_none (by omega)] at e; cases e
theorem Ext.push (H : RH) (o : RO) : Ext H (H ++ [o]) := fun i x e => by rw [List.getElem?_append_left (lt_of_get e)]; exact e
theorem Ext.len {H H' : RH} (x : Ext H H') : H.length ≤ H'.length := by
  by_cases h : H.length = 0
  · omega
  · have h1 : H.length - 1 < H.length := by omega
    have := lt_of_get (x (H.length - 1) _ (List.getElem?_eq_getElem h1))
    omega
theorem get_new (H : RH) (o : RO) : (H ++ [o])[H.length]? = some o := by
  rw [List.getElem?_append_right (Nat.le_refl _), Nat.sub_self]; rfl
def ExtBut (j : Nat) (H H' : RH) : Prop := ∀ (i : Nat) (o : RO), i ≠ j → H[i]? = some o → H'[i]? = some o
theorem Ext.but {H H' : RH} (x : Ext H H') (j : Nat) : ExtBut j H H' := fun i o z_ e => x i o e
theorem ExtBut.trans {j : Nat} {a b c : RH} (x : ExtBut j a b) (y : ExtBut j b c) : ExtBut j a c := fun i o h e => y i o h (x i o h e)
theorem ExtBut.set (H : RH) (j : Nat) (o : RO) : ExtBut j H (H.set j o) := fun i x h e => by rw [List.getElem?_set_ne (Ne.symm h)]; exact e
theorem get_set {H : RH} {j : Nat} {o o' : RO} (e : H[j]? = some o) : (H.set j o')[j]? = some o' := List.getElem?_set_self (lt_of_get e)
theorem ExtBut.old {j : Nat} {H₀ H H' : RH} (x : Ext H₀ H) (y : ExtBut j H H') (h : H₀.length ≤ j) : Ext H₀ H' := fun i o e => y i o (by have := lt_of_get e; omega) (x i o e)
def Goes (s : Src) (H : RH) (vs : List RV) : Prop := ∀ H', Ext H H' → ∀ k, peek s H' k = some vs[k]?
theorem goes_items (vs : List RV) (H : RH) : Goes (.items vs) H vs := fun z_ z_ z_ => rfl
theorem goes_list {H : RH} {i : Nat} {vs : List RV} (h : H[i]? = some (.list vs)) : Goes (.list i) H vs := fun H' x k => by
  show ((H'[i]?).bind asL).bind _ = _
  rw [x i _ h]; rfl
theorem goes_kept {H : RH} {i ep : Nat} {vs : List RV} {o : RO} (h : H[i]? = some o) (he : epOf o = some ep) : Goes (.kept i ep vs) H vs := fun H' x k => by
  show (if (H'[i]?).bind epOf = some ep then some vs[k]? else none) = _
  rw [x i _ h, Option.bind_some, he, if_pos rfl]
section
variable {H H' : RH} {s : Src} {vs : List RV}
set_option tactic.hygienic true in
theorem for_rule' {body : Loc → RH → PF → Prop} (hb : ∀ l H q Q, body l H q → Mo.SF q Q → body l H Q) {t : RTg} {Q : PF} (Inv : Nat → Loc → RH → Prop) (hp : ∀ k loc H, Inv k loc H → peek s H k = some vs[k]?)
    (turn : ∀ k loc H v, Inv k loc H → vs[k]? = some v → optwp (asgT t v loc) fun loc₁ => body loc₁ H fun fl loc₂ H₂ => turnwp fl loc₂ H₂ Q (Inv (k + 1) loc₂ H₂))
    (end_ : ∀ loc H, Inv vs.length loc H → Q .next loc H) : ∀ (j k : Nat) (loc : Loc) (H : RH), k + j = vs.length → Inv k loc H → wpFor body t s (j + 1) k loc H Q
  | j, k, loc, H, hj, hi => by
    show optwp (peek s H k) _
    rw [hp k loc H hi]
    show (match vs[k]? with
      | none => Q .next loc H
      | some v => optwp (asgT t v loc) fun loc₁ => body loc₁ H fun fl loc₂ H₂ => turnwp fl loc₂ H₂ Q (wpFor body t s j (k + 1) loc₂ H₂ Q))
    cases e : vs[k]? with
    | none =>
      have : vs.length ≤ k := List.getElem?_eq_none_iff.mp e
      have : k = vs.length := by omega
      subst this
      exact end_ loc H hi
    | some v =>
      have hk : k < vs.length := by
        by_cases h : k < vs.length
        · exact h
        · rw [List.getElem?_eq_none (by omega)] at e; cases e
      refine Mo.opt_s (turn k loc H v hi e) fun l₁ h => hb _ _ _ _ h fun fl l₂ H₂ h => ?_
      cases fl with
      | next => match j, hj with | 0, hj => omega | j + 1, hj => exact for_rule' hb Inv hp turn end_ j (k + 1) l₂ H₂ (by omega) h
      | cont => match j, hj with | 0, hj => omega | j + 1, hj => exact for_rule' hb Inv hp turn end_ j (k + 1) l₂ H₂ (by omega) h
      | brk => exact h
      | ret r => exact h
theorem for_ok {G : RProg} {n : Nat} {body : List RT} {t : RTg} {Q : PF} {loc : Loc} (Inv : Nat → Loc → RH → Prop) (hp : ∀ k loc H, Inv k loc H → peek s H k = some vs[k]?)
    (turn : ∀ k loc H v, Inv k loc H → vs[k]? = some v → optwp (asgT t v loc) fun loc₁ => wpSs G (callU G n) body loc₁ H fun fl loc₂ H₂ => turnwp fl loc₂ H₂ Q (Inv (k + 1) loc₂ H₂))
    (end_ : ∀ loc H, Inv vs.length loc H → Q .next loc H) (h0 : Inv 0 loc H) : ∃ m, wpFor (fun l' H' Q' => wpSs G (callU G n) body l' H' Q') t s m 0 loc H Q :=
  ⟨vs.length + 1, for_rule' (fun l H q Q h s => Mo.sSs (Mo.sU G n) body l H q Q h s) Inv hp turn end_ vs.length 0 loc H (Nat.zero_add _) h0⟩
theorem turns_rule {turn : RV → List RV → RH → PL → Prop} (ht : ∀ v acc H k K, turn v acc H k → Mo.SL k K → turn v acc H K) {Q : PL} {H₀ : RH} (g : Goes s H₀ vs) (Inv : Nat → List RV → RH → Prop) (hx : ∀ k acc H, Inv k acc H → Ext H₀ H)
    (step : ∀ k acc H v, Inv k acc H → vs[k]? = some v → turn v acc H fun acc' H' => acc'.length < 4000 ∧ Inv (k + 1) acc' H') (end_ : ∀ acc H, Inv vs.length acc H → Q acc H) : ∀ (j k : Nat) (acc : List RV) (H : RH), k + j = vs.length → Inv k acc H → wpTurns turn s (j + 1) k acc H Q
  | j, k, acc, H, hj, hi => by
    show optwp (peek s H k) _
    rw [g H (hx k acc H hi) k]
    show (match vs[k]? with
      | none => Q acc H
      | some v => turn v acc H fun acc' H' => acc'.length < 4000 ∧ wpTurns turn s j (k + 1) acc' H' Q)
    cases e : vs[k]? with
    | none =>
      have : vs.length ≤ k := List.getElem?_eq_none_iff.mp e
      have : k = vs.length := by omega
      subst this
      exact end_ acc H hi
    | some v =>
      have hk : k < vs.length := by
        by_cases h : k < vs.length
        · exact h
        · rw [List.getElem?_eq_none (by omega)] at e; cases e
      refine ht _ _ _ _ _ (step k acc H v hi e) fun acc' H' h => ⟨h.1, ?_⟩
      match j, hj with | 0, hj => omega | j + 1, hj => exact turns_rule ht g Inv hx step end_ j (k + 1) acc' H' (by omega) h.2
theorem turns_map {G : RProg} {n : Nat} {ifs : List RE} {elt : RE} {x : String} {loc : Loc} {Q : PL} (g : Goes s H vs) (hl : vs.length < 4000) (p : RV → Bool) (f : RV → RV)
    (hv : ∀ v ∈ vs, ∀ H₂, Ext H H₂ → wpIfs G (callU G n) ifs (setL x v loc) H₂ fun ok H₃ => ok = p v ∧ Ext H₂ H₃ ∧ (p v = true → wpE G (callU G n) elt (setL x v loc) H₃ fun r H₄ => r = f v ∧ Ext H₃ H₄))
    (hQ : ∀ H', Ext H H' → Q ((vs.filter p).map f) H') :
    ∃ m, wpTurns (fun v acc H' k => wpIfs G (callU G n) ifs (setL x v loc) H' fun ok H'' => if ok then wpE G (callU G n) elt (setL x v loc) H'' fun r H₃ => k (acc ++ [r]) H₃ else k acc H'') s m 0 [] H Q := by
  refine ⟨vs.length + 1, turns_rule (fun v acc H' k K h s' => ?_) g (fun k acc H' => Ext H H' ∧ acc = ((vs.take k).filter p).map f) (fun k acc H' h => h.1) (fun k acc H' v hi e => ?_) (fun acc H' hi => ?_) vs.length 0 [] H (Nat.zero_add _) ⟨Ext.refl _, by simp⟩⟩
  · exact Mo.sIfs (Mo.sU G n) ifs _ _ _ _ h fun ok H₄ h => Mo.ite_s h (fun h => (Mo.sX (Mo.sU G n) elt).1 _ _ _ _ h fun r H₅ h => s' _ _ h) fun h => s' _ _ h
  · (revert hi; refine ob_Ar fun hx o1_ => ?_; subst o1_)
    have hk : k < vs.length := by
      by_cases h : k < vs.length
      · exact h
      · rw [List.getElem?_eq_none (by omega)] at e; cases e
    have ht : vs.take (k + 1) = vs.take k ++ [v] := by
      rw [List.take_add_one, e]; rfl
    have hlen : ∀ l : List RV, l = ((vs.take (k + 1)).filter p).map f → l.length < 4000 := fun l h => by
      rw [h, List.length_map]
      have h1 := List.length_filter_le p (vs.take (k + 1))
      have h2 : (vs.take (k + 1)).length ≤ vs.length := List.length_take_le' ..
      omega
    refine Mo.sIfs (Mo.sU G n) ifs _ _ _ _ (hv v (List.mem_of_getElem? e) H' hx) fun ok H₃ h => ?_
    (revert h; refine ob_AAr fun o1_ x₂ h => ?_; subst o1_)
    cases hp : p v with
    | true =>
      rw [if_pos rfl]
      refine (Mo.sX (Mo.sU G n) elt).1 _ _ _ _ (h hp) fun r H₄ h => ?_
      (revert h; refine ob_Ar fun o1_ x₃ => ?_; subst o1_)
      have e' : ((vs.take k).filter p).map f ++ [f v] = ((vs.take (k + 1)).filter p).map f := by rw [ht]; simp [hp]
      exact ⟨hlen _ e', (hx.trans x₂).trans x₃, e'⟩
    | false =>
      rw [if_neg Bool.false_ne_true]
      have e' : ((vs.take k).filter p).map f = ((vs.take (k + 1)).filter p).map f := by rw [ht]; simp [hp]
      exact ⟨hlen _ e', hx.trans x₂, e'⟩
  · (revert hi; refine ob_Ar fun hx o1_ => ?_; subst o1_)
    rw [List.take_length]
    exact hQ H' hx
end
section
variable {G : RProg} {U : UTy} {H : RH} {loc : Loc} {Q : PV} {QF : PF} {QB : PB} {QL : PL} {α : Type}
theorem s_opt (x : α) (k : α → Prop) : optwp (some x) k = k x := rfl
theorem s_call (G : RProg) (n : Nat) (d : RFn) (args : List RV) (H : RH) (Q : PV) : callU G (n + 1) d args H Q = optwp (bindR d.params d.dflts args) fun loc => wpSs G (callU G n) d.body loc H fun fl z_ H₁ => Q (retV fl) H₁ := rfl
theorem s_ss0 : wpSs G U [] loc H QF = QF .next loc H := rfl
theorem s_ss (s : RT) (r : List RT) : wpSs G U (s :: r) loc H QF = wpS G U s loc H (fun fl loc₁ H₁ => match fl with
    | .next => wpSs G U r loc₁ H₁ QF
    | fl => QF fl loc₁ H₁) := rfl
theorem s_ssI {s : RT} {r : List RT} (h : wpS G U s loc H (fun fl loc₁ H₁ => match fl with
    | .next => wpSs G U r loc₁ H₁ QF
    | fl => QF fl loc₁ H₁)) : wpSs G U (s :: r) loc H QF := h
theorem lookup_setL' {α : Type} (x y : String) (v : α) : ∀ l : List (String × α), (setL x v l).lookup y = if y = x then some v else l.lookup y
  | [] => by
    by_cases h : y = x
    · rw [if_pos h, h]; simp [setL]
    · rw [if_neg h]
      have : (y == x) = false := by simpa using h
      simp [setL, List.lookup_cons, this]
  | (z, u) :: r => by
    have ih := lookup_setL' x y v r
    unfold setL
    by_cases hz : z = x
    · rw [if_pos hz]
      by_cases h : y = x
      · rw [if_pos h, h]; simp
      · rw [if_neg h]
        have h1 : (y == x) = false := by simpa using h
        have h2 : (y == z) = false := by rw [hz]; exact h1
        simp [List.lookup_cons, h1, h2]
    · rw [if_neg hz, List.lookup_cons, List.lookup_cons, ih]
      by_cases h : y = x
      · subst h
        have : (y == z) = false := by simpa using fun e => hz e.symm
        rw [this, if_pos rfl]
      · rw [if_neg h]
        cases y == z <;> simp [h]
theorem s_lrng (a b : Int) : lenR H (.rng a b 1) = some (b - a).toNat := rfl
theorem s_tb (b : Bool) : truthR H (.bool b) = some b := rfl
theorem s_ti (i : Int) : truthR H (.int i) = some (i != 0) := rfl
theorem s_lt (a b : Int) : cmpP H .Lt (.int a) (.int b) = some (decide (a < b)) := rfl
theorem s_le (a b : Int) : cmpP H .LtE (.int a) (.int b) = some (decide (a ≤ b)) := rfl
theorem s_gt (a b : Int) : cmpP H .Gt (.int a) (.int b) = some (decide (b < a)) := rfl
theorem s_eqi (a b : Int) : cmpP H .Eq (.int a) (.int b) = some (a == b) := by
  show eqP H (.int a) (.int b) = _
  have : PyData.eqv (.int a) (.int b) = (a == b) := by kernel_rfl
  show some (PyData.eqv (.int a) (.int b)) = _
  rw [this]
theorem s_nei (a b : Int) : cmpP H .NotEq (.int a) (.int b) = some (!(a == b)) := by
  have : PyData.eqv (.int a) (.int b) = (a == b) := by kernel_rfl
  show some (!(PyData.eqv (.int a) (.int b))) = _
  rw [this]
theorem s_in : ∀ (a b : RV), cmpP H .In a b = inP H a b := fun z_ z_ => rfl
theorem s_nin : ∀ (a b : RV), cmpP H .NotIn a b = (inP H a b).map (!·) := fun z_ z_ => rfl
theorem s_add (a b : Int) : binwp .Add (.int a) (.int b) H Q = Q (.int (a + b)) H := rfl
theorem s_sub (a b : Int) : binwp .Sub (.int a) (.int b) H Q = Q (.int (a - b)) H := rfl
theorem s_mul (a b : Int) : binwp .Mult (.int a) (.int b) H Q = (smallI a ∧ smallI b ∧ Q (.int (a * b)) H) := rfl
theorem s_div (a b : Int) : binwp .FloorDiv (.int a) (.int b) H Q = (b ≠ 0 ∧ Q (.int (Int.fdiv a b)) H) := rfl
theorem s_mod (a b : Int) : binwp .Mod (.int a) (.int b) H Q = (b ≠ 0 ∧ Q (.int (Int.fmod a b)) H) := rfl
noncomputable def fldO (G : RProg) (x : String) : RO → Option RV
  | .inst c fs => if attrOk G c x then (fs.lookup x).bind fun v => if isBi v then none else some v else none
  | _ => none
noncomputable def sflO (G : RProg) (H : RH) (i : Nat) (x : String) (v : RV) : RO → Option RH
  | .inst c fs => if attrOk G c x && decide (fs.length < 900) then some (H.set i (.inst c (setL x v fs))) else none
  | _ => none
def lstO' (i : Nat) : RO → Option (Nat × List RV)
  | .list vs => some (i, vs)
  | _ => none
def setO' (i : Nat) : RO → Option (Nat × List (Int × RV) × Nat × SetTable)
  | .set es ep t => some (i, es, ep, t)
  | _ => none
theorem s_fld (i : Nat) (x : String) : fieldR G H (.ref i) x = (H[i]?).bind (fldO G x) := by
  show (((H[i]?).bind fun o => some (i, o)).bind fun p => (asO p.2).bind fun y => some (p.1, y)).bind _ = _
  cases H[i]? with
  | none => rfl
  | some o => cases o <;> rfl
theorem s_sfl (i : Nat) (x : String) (v : RV) : setField G H (.ref i) x v = (H[i]?).bind (sflO G H i x v) := by
  show (((H[i]?).bind fun o => some (i, o)).bind fun p => (asO p.2).bind fun y => some (p.1, y)).bind _ = _
  cases H[i]? with
  | none => rfl
  | some o => cases o <;> rfl
theorem s_lst (i : Nat) : lstAt H (.ref i) = (H[i]?).bind (lstO' i) := by
  show ((H[i]?).bind fun o => some (i, o)).bind _ = _
  cases H[i]? with
  | none => rfl
  | some o => cases o <;> rfl
theorem s_sta (i : Nat) : setAt H (.ref i) = (H[i]?).bind (setO' i) := by
  show ((H[i]?).bind fun o => some (i, o)).bind _ = _
  cases H[i]? with
  | none => rfl
  | some o => cases o <;> rfl
theorem s_fldO (c x : String) (fs : List (String × RV)) : fldO G x (.inst c fs) = if attrOk G c x then (fs.lookup x).bind fun v => if isBi v then none else some v else none := rfl
theorem s_sflO (i : Nat) (c x : String) (fs : List (String × RV)) (v : RV) : sflO G H i x v (.inst c fs) = if attrOk G c x && decide (fs.length < 900) then some (H.set i (.inst c (setL x v fs))) else none := rfl
theorem s_lstO (i : Nat) (vs : List RV) : lstO' i (.list vs) = some (i, vs) := rfl
theorem s_setO (i ep : Nat) (es : List (Int × RV)) (t : SetTable) : setO' i (.set es ep t) = some (i, es, ep, t) := rfl
theorem s_mth (i : Nat) (m : String) : methK G H (.ref i) m = (H[i]?).bind (methO G m) := rfl
theorem s_mI (c m : String) (fs : List (String × RV)) : methO G m (.inst c fs) = if (fs.lookup m).isSome then none else ((G.clss.lookup c).bind (fun k => k.ms.lookup m)).map .own := rfl
theorem s_mL (vs : List RV) : methO G "append" (.list vs) = some (.blt "list.append") := rfl
theorem s_mS (es : List (Int × RV)) (ep : Nat) (t : SetTable) : methO G "add" (.set es ep t) = some (.blt "set.add") := rfl
theorem s_subr (i : Nat) (k : RV) : subR H (.ref i) k = (H[i]?).bind fun o => subO o k := rfl
theorem s_subO (vs : List RV) (k : RV) : subO (.list vs) k = nthR vs k := rfl
theorem s_lenr (i : Nat) : lenR H (.ref i) = (H[i]?).bind lenO := rfl
theorem s_lenL (vs : List RV) : lenO (.list vs) = some vs.length := rfl
theorem s_srcr (i : Nat) (Qs : Src → Prop) : srcwp H (.ref i) Qs = optwp (H[i]?) fun o => srcOwp i o Qs := rfl
theorem s_srcL (i : Nat) (vs : List RV) (Qs : Src → Prop) : srcOwp i (.list vs) Qs = Qs (.list i) := rfl
theorem s_srcS (i ep : Nat) (es : List (Int × RV)) (t : SetTable) (Qs : Src → Prop) : srcOwp i (.set es ep t) Qs = ((t.plain = true ∧ SetTable.rising t.place = true) ∧ ∀ l, l.Perm (es.map (·.2)) → Qs (.kept i ep l)) := rfl
theorem s_srcR (a b : Int) (Qs : Src → Prop) : srcwp H (.rng a b 1) Qs = ((1 = (1 : Int) ∧ Builtin.Range.small a b 1 = true) ∧ Qs (.items (rngL a b 1))) := rfl
theorem s_inr (a : RV) (i : Nat) : inP H a (.ref i) = (H[i]?).bind (inO a) := rfl
theorem s_inL (a : RV) (vs : List RV) : inO a (.list vs) = inSeq a vs .list := rfl
theorem s_inS (a : RV) (es : List (Int × RV)) (ep : Nat) (t : SetTable) : inO a (.set es ep t) = inSet a es t := rfl
theorem s_inR (i a b : Int) : inP H (.int i) (.rng a b 1) = some (decide (a ≤ i ∧ i < b)) := rfl
theorem s_split (s : Str) : methK G H (.str s) "split" = some (.blt "str.split") := rfl
theorem s_own (d : RFn) (o : RV) (vs : List RV) : doMwp U (.own d) o vs H Q = U d (o :: vs) H Q := rfl
theorem s_blt (id : String) (o : RV) (vs : List RV) : doMwp U (.blt id) o vs H Q = mbwp id o vs H Q := rfl
theorem s_apd (o v : RV) : mbwp "list.append" o [v] H Q = optwp (lstAt H o) fun p => (p.2.length < 4000) ∧ Q .none (H.set p.1 (.list (p.2 ++ [v]))) := rfl
theorem s_spl (o : RV) : mbwp "str.split" o [] H Q = optwp (asS o) fun x => (x.length < 4000) ∧ mkLwp H Q ((Txt.words x).map .str) := rfl
theorem s_fn (x : String) (vs : List RV) : callwp G U (.fn x) vs H Q = optwp (G.funs.lookup x) fun d => U d vs H Q := rfl
theorem s_cls (c : String) (vs : List RV) : callwp G U (.cls c) vs H Q = optwp ((G.clss.lookup c).bind (fun k => k.ms.lookup "__init__")) fun d => U d (.ref H.length :: vs) (H ++ [.inst c []]) fun r H' => (r = .none) ∧ Q (.ref H.length) H' := rfl
theorem s_len (v : RV) : callwp G U (.bi "len") [v] H Q = optwp (lenR H v) fun n => (fitN n) ∧ Q (.int n) H := rfl
theorem s_srt (v : RV) : callwp G U (.bi "sorted") [v] H Q = optwp (strsIn H v) fun l => (l.length < 64) ∧ mkLwp H Q ((sortS l).map .str) := rfl
theorem s_sum (v : RV) : callwp G U (.bi "sum") [v] H Q = optwp (intsIn H v) fun l => Q (.int l.sum) H := rfl
theorem s_min (a b : Int) : callwp G U (.bi "min") [.int a, .int b] H Q = Q (.int (if b < a then b else a)) H := rfl
theorem s_rg1 (a : Int) : callwp G U (.ty "range") [.int a] H Q = (fitI a ∧ Q (.rng 0 a 1) H) := rfl
theorem s_rg2 (a b : Int) : callwp G U (.ty "range") [.int a, .int b] H Q = (fitI a ∧ fitI b ∧ Q (.rng a b 1) H) := rfl
theorem s_set0 : callwp G U (.ty "set") [] H Q = Q (.ref H.length) (H ++ [.set [] 0 (SetTable.fresh 0 0 true)]) := rfl
theorem s_set1 (v : RV) : callwp G U (.ty "set") [v] H Q = optwp ((lstAt H v).bind fun p => strsP p.2) fun l => (l.length < 4000) ∧ Q (.sset (nubS l)) H := rfl
theorem s_tup (v : RV) : callwp G U (.ty "tuple") [v] H Q = match asT v with
      | some vs => Q (.tup vs) H
      | none => optwp (lstAt H v) fun p => (p.2.length < 4000) ∧ Q (.tup p.2) H := rfl
theorem s_lss (l : List Str) : lenR H (.sset l) = some l.length := rfl
theorem s_lt' (l : List RV) : lenR H (.tup l) = some l.length := rfl
noncomputable def CompT (G : RProg) (U : UTy) (elt : RE) (x : String) (ifs : List RE) (loc : Loc) (sc : Src) (H : RH) (Q : PV) : Prop :=
  ∃ n, wpTurns (fun v acc H' k => wpIfs G U ifs (setL x v loc) H' fun ok H'' => if ok then wpE G U elt (setL x v loc) H'' fun r H₃ => k (acc ++ [r]) H₃ else k acc H'') sc n 0 [] H fun vs H₂ => Q (.ref H₂.length) (H₂ ++ [.list vs])
noncomputable def ForT (G : RProg) (U : UTy) (t : RTg) (body : List RT) (sc : Src) (loc : Loc) (H : RH) (Q : PF) : Prop := ∃ n, wpFor (fun l' H' Q' => wpSs G U body l' H' Q') t sc n 0 loc H Q
noncomputable def KeysT (G : RProg) (U : UTy) (x : String) (body : RE) (loc : Loc) (l : List RV) (H : RH) (Q : PL) : Prop := wpKeys (fun v H' k => wpE G U body (setL x v loc) H' k) l [] H Q
theorem e_const (v : RV) : wpE G U (.const v) loc H Q = Q v H := rfl
theorem e_loc (x : String) : wpE G U (.loc x) loc H Q = optwp (loc.lookup x) fun v => Q v H := rfl
theorem e_glb (x : String) : wpE G U (.glb x) loc H Q = optwp (globR G x) fun v => Q v H := rfl
theorem e_bool (b : Bool) (es : List RE) : wpE G U (.boolop b es) loc H Q = wpBool G U b es loc H Q := rfl
theorem e_bin (op : Operator) (a b : RE) : wpE G U (.bin op a b) loc H Q = wpE G U a loc H fun x H₁ => wpE G U b loc H₁ fun y H₂ => binwp op x y H₂ Q := rfl
theorem e_not (a : RE) : wpE G U (.not a) loc H Q = wpE G U a loc H fun v H₁ => optwp (truthR H₁ v) fun b => Q (.bool (!b)) H₁ := rfl
theorem e_neg (a : RE) : wpE G U (.neg a) loc H Q = wpE G U a loc H fun v H₁ => optwp (asI v) fun i => Q (.int (-i)) H₁ := rfl
theorem e_cond (t a b : RE) : wpE G U (.cond t a b) loc H Q = wpT G U t (fun l H' Q' => wpE G U t l H' Q') loc H fun c H₁ => if c then wpE G U a loc H₁ Q else wpE G U b loc H₁ Q := rfl
theorem e_list (es : List RE) : wpE G U (.list es) loc H Q = wpEs G U es loc H fun vs H₁ => (vs.length ≤ sizeLine) ∧ Q (.ref H₁.length) (H₁ ++ [.list vs]) := rfl
theorem e_tup (es : List RE) : wpE G U (.tup es) loc H Q = wpEs G U es loc H fun vs H₁ => (vs.length ≤ sizeLine) ∧ Q (.tup vs) H₁ := rfl
theorem e_comp1 (elt : RE) (x : String) (it : RE) (ifs : List RE) : wpE G U (.comp1 elt x it ifs) loc H Q = wpE G U it loc H fun s H₁ => srcwp H₁ s fun sc => CompT G U elt x ifs loc sc H₁ Q := rfl
theorem e_cmp (a : RE) (ops : List CmpOp) (es : List RE) : wpE G U (.cmp a ops es) loc H Q = wpE G U a loc H fun v H₁ => wpCmp G U v ops es loc H₁ Q := rfl
theorem e_call (f : RE) (args : List RE) : wpE G U (.call f args) loc H Q = wpE G U f loc H fun fv H₁ => (callable G fv = true) ∧ wpEs G U args loc H₁ fun vs H₂ => callwp G U fv vs H₂ Q := rfl
theorem e_meth (o : RE) (m : String) (args : List RE) : wpE G U (.meth o m args) loc H Q = wpE G U o loc H fun ov H₁ => optwp (methK G H₁ ov m) fun k => wpEs G U args loc H₁ fun vs H₂ => doMwp U k ov vs H₂ Q := rfl
theorem e_attr (o : RE) (x : String) : wpE G U (.attr o x) loc H Q = wpE G U o loc H fun ov H₁ => optwp (fieldR G H₁ ov x) fun v => Q v H₁ := rfl
theorem e_sub (o i : RE) : wpE G U (.sub o i) loc H Q = wpE G U o loc H fun ov H₁ => wpE G U i loc H₁ fun iv H₂ => optwp (subR H₂ ov iv) fun v => Q v H₂ := rfl
theorem e_sortk (arg : RE) (x : String) (body : RE) (t : Nat) : wpE G U (.sortk arg x body t) loc H Q = ((isSortedB G = true) ∧ wpE G U arg loc H fun s H₁ => optwp (sortSrc H₁ s) fun l => optwp (tabAt H₁ t) fun z_ => (l.length < 64) ∧ KeysT G U x body loc l (H₁.set t (.tab true)) fun ks H₂ => optwp (keysP ks) fun kk => (kk.all (fun k => !k.isEmpty) = true) ∧ optwp (sortP kk l) fun l' => Q (.ref H₂.length) (H₂ ++ [.list l'])) := rfl
theorem c_not (a : RE) (w : Loc → RH → PV → Prop) : wpT G U (.not a) w loc H QB = wpT G U a (fun l H' Q' => wpE G U a l H' Q') loc H fun b H₁ => QB (!b) H₁ := rfl
theorem c_bool (b : Bool) (es : List RE) (w : Loc → RH → PV → Prop) : wpT G U (.boolop b es) w loc H QB = wpTs G U b es loc H QB := rfl
theorem c_cmp (a : RE) (ops : List CmpOp) (es : List RE) (w : Loc → RH → PV → Prop) : wpT G U (.cmp a ops es) w loc H QB = wpE G U a loc H fun v H₁ => wpCmpT G U v ops es loc H₁ QB := rfl
theorem c_loc (x : String) (w : Loc → RH → PV → Prop) : wpT G U (.loc x) w loc H QB = w loc H fun v H₁ => optwp (truthR H₁ v) fun b => QB b H₁ := rfl
theorem c_bin (op : Operator) (a b : RE) (w : Loc → RH → PV → Prop) : wpT G U (.bin op a b) w loc H QB = w loc H fun v H₁ => optwp (truthR H₁ v) fun b => QB b H₁ := rfl
theorem c_call (f : RE) (args : List RE) (w : Loc → RH → PV → Prop) : wpT G U (.call f args) w loc H QB = w loc H fun v H₁ => optwp (truthR H₁ v) fun b => QB b H₁ := rfl
theorem c_meth (o : RE) (m : String) (args : List RE) (w : Loc → RH → PV → Prop) : wpT G U (.meth o m args) w loc H QB = w loc H fun v H₁ => optwp (truthR H₁ v) fun b => QB b H₁ := rfl
theorem c_attr (o : RE) (x : String) (w : Loc → RH → PV → Prop) : wpT G U (.attr o x) w loc H QB = w loc H fun v H₁ => optwp (truthR H₁ v) fun b => QB b H₁ := rfl
theorem c_ts0 (b : Bool) : wpTs G U b [] loc H QB = QB b H := rfl
theorem c_ts1 (b : Bool) (e : RE) (es : List RE) : wpTs G U b (e :: es) loc H QB = wpT G U e (fun l H' Q' => wpE G U e l H' Q') loc H fun c H₁ => if c = b then wpTs G U b es loc H₁ QB else QB c H₁ := rfl
theorem c_if0 : wpIfs G U [] loc H QB = QB true H := rfl
theorem c_if1 (e : RE) (es : List RE) : wpIfs G U (e :: es) loc H QB = wpT G U e (fun l H' Q' => wpE G U e l H' Q') loc H fun b H₁ => if b then wpIfs G U es loc H₁ QB else QB false H₁ := rfl
theorem c_es0 : wpEs G U [] loc H QL = QL [] H := rfl
theorem c_es1 (e : RE) (es : List RE) : wpEs G U (e :: es) loc H QL = wpE G U e loc H fun v H₁ => wpEs G U es loc H₁ fun vs H₂ => QL (v :: vs) H₂ := rfl
theorem c_bo1 (b : Bool) (e : RE) : wpBool G U b [e] loc H Q = wpE G U e loc H fun v H₁ => Q v H₁ := rfl
theorem c_bo2 (b : Bool) (e e' : RE) (es : List RE) : wpBool G U b (e :: e' :: es) loc H Q = wpE G U e loc H fun v H₁ => optwp (truthR H₁ v) fun c => if c = b then wpBool G U b (e' :: es) loc H₁ Q else Q v H₁ := rfl
theorem c_cm1 (v : RV) (op : CmpOp) (e : RE) : wpCmp G U v [op] [e] loc H Q = wpE G U e loc H fun u H₁ => optwp (cmpP H₁ op v u) fun b => Q (.bool b) H₁ := rfl
theorem c_cm2 (v : RV) (op op' : CmpOp) (ops : List CmpOp) (e e' : RE) (es : List RE) : wpCmp G U v (op :: op' :: ops) (e :: e' :: es) loc H Q = wpE G U e loc H fun u H₁ => optwp (cmpP H₁ op v u) fun b => if b then wpCmp G U u (op' :: ops) (e' :: es) loc H₁ Q else Q (.bool false) H₁ := rfl
theorem c_ct1 (v : RV) (op : CmpOp) (e : RE) : wpCmpT G U v [op] [e] loc H QB = wpE G U e loc H fun u H₁ => optwp (cmpP H₁ op v u) fun b => QB b H₁ := rfl
theorem c_ct2 (v : RV) (op op' : CmpOp) (ops : List CmpOp) (e e' : RE) (es : List RE) : wpCmpT G U v (op :: op' :: ops) (e :: e' :: es) loc H QB = wpE G U e loc H fun u H₁ => optwp (cmpP H₁ op v u) fun b => if b then wpCmpT G U u (op' :: ops) (e' :: es) loc H₁ QB else QB false H₁ := rfl
theorem t_expr (e : RE) : wpS G U (.expr e) loc H QF = wpE G U e loc H fun z_ H₁ => QF .next loc H₁ := rfl
theorem t_ret (e : RE) : wpS G U (.ret (some e)) loc H QF = wpE G U e loc H fun v H₁ => QF (.ret v) loc H₁ := rfl
theorem t_asg (t : RTg) (e : RE) : wpS G U (.asg t e) loc H QF = wpE G U e loc H fun v H₁ => optwp (asgT t v loc) fun loc₁ => QF .next loc₁ H₁ := rfl
theorem t_asgA (o : RE) (x : String) (e : RE) : wpS G U (.asgAttr o x e) loc H QF = wpE G U e loc H fun v H₁ => wpE G U o loc H₁ fun ov H₂ => optwp (setField G H₂ ov x v) fun H₃ => QF .next loc H₃ := rfl
theorem t_ite (t : RE) (a b : List RT) : wpS G U (.ite t a b) loc H QF = wpT G U t (fun l H' Q' => wpE G U t l H' Q') loc H fun c H₁ => if c then wpSs G U a loc H₁ QF else wpSs G U b loc H₁ QF := rfl
theorem t_for (t : RTg) (it : RE) (body : List RT) : wpS G U (.for_ t it body) loc H QF = wpE G U it loc H fun s H₁ => srcwp H₁ s fun sc => ForT G U t body sc loc H₁ QF := rfl
theorem t_raise : wpS G U .raise_ loc H QF = False := rfl
theorem s_nt (x : String) (v : RV) : asgT (.name x) v loc = some (setL x v loc) := rfl
theorem s_tun (a : Prop) : turnwp .next loc H QF a = a := rfl
theorem s_tur (r : RV) (a : Prop) : turnwp (.ret r) loc H QF a = QF (.ret r) loc H := rfl
theorem s_nt3 (x y z : String) (a b c : RV) : asgT (.names [x, y, z]) (.tup [a, b, c]) loc = some (setL z c (setL y b (setL x a loc))) := rfl
end
section
variable {G : RProg} {H H' : RH} {loc : Loc} {Q : PV} {QF : PF} {sc : Src} {vs : List RV} {n : Nat}
theorem comp_map {ifs : List RE} {elt : RE} {x : String} (g : Goes sc H vs) (hl : vs.length < 4000) (p : RV → Bool) (f : RV → RV)
    (hv : ∀ v ∈ vs, ∀ H₂, Ext H H₂ → wpIfs G (callU G n) ifs (setL x v loc) H₂ fun ok H₃ => ok = p v ∧ Ext H₂ H₃ ∧ (p v = true → wpE G (callU G n) elt (setL x v loc) H₃ fun r H₄ => r = f v ∧ Ext H₃ H₄))
    (hQ : ∀ i H', Ext H H' → H'[i]? = some (.list ((vs.filter p).map f)) → H.length ≤ i → Q (.ref i) H') : CompT G (callU G n) elt x ifs loc sc H Q :=
  turns_map g hl p f hv fun H' x => hQ _ _ (x.trans (Ext.push _ _)) (get_new _ _) x.len
theorem for_inv {body : List RT} {t : RTg} (Inv : Nat → Loc → RH → Prop) (hp : ∀ k loc H, Inv k loc H → peek sc H k = some vs[k]?)
    (turn : ∀ k loc H v, Inv k loc H → vs[k]? = some v → optwp (asgT t v loc) fun loc₁ => wpSs G (callU G n) body loc₁ H fun fl loc₂ H₂ => turnwp fl loc₂ H₂ QF (Inv (k + 1) loc₂ H₂))
    (end_ : ∀ loc H, Inv vs.length loc H → QF .next loc H) (h0 : Inv 0 loc H) : ForT G (callU G n) t body sc loc H QF := for_ok Inv hp turn end_ h0
theorem rngL_at {a b : Int} {i : Nat} {v : RV} (h : (rngL a b 1)[i]? = some v) : v = .int (a + i) ∧ (i : Int) < b - a := by
  have h : (if (0 : Int) < 1 then (List.range ((b - a + 1 - 1) / 1).toNat).map (fun (k : Nat) => RV.int (a + 1 * (k : Int))) else [])[i]? = some v := h
  rw [if_pos (by decide), List.getElem?_map, Int.ediv_one] at h
  by_cases hi : i < (b - a + 1 - 1).toNat
  · rw [List.getElem?_range hi] at h
    have h := Option.some.inj h
    rw [← h]
    exact ⟨by simp, by omega⟩
  · rw [List.getElem?_eq_none (by simpa using hi)] at h
    cases h
theorem strs_pd (l : List Str) : toPDs (l.map RV.str) = some (l.map PyData.str) := by
  induction l with
  | nil =>
    exact rfl
  | cons x r ih_ =>
    show (match some (PyData.str x) with | some d => (match toPDs (r.map RV.str) with | some ds => some (d :: ds) | none => none) | none => none) = _
    rw [ih_]; rfl
theorem strs_depth (l : List Str) : PyData.depthAll (l.map PyData.str) = 0 := by
  induction l with
  | nil =>
    simp [PyData.depthAll]
  | cons x r ih_ =>
    simp [PyData.depthAll, PyData.depth, ih_]
theorem strs_lay (l : List Str) : (∀ x ∈ l, PyData.canLay0 (.str x) = true) → PyData.canLayAll0 (l.map PyData.str) = true := by
  induction l with
  | nil =>
    intro z_
    simp [PyData.canLayAll0]
  | cons x r ih_ =>
    intro h
    simp only [List.map_cons, PyData.canLayAll0, h x (.head _), ih_ fun y hy => h y (.tail _ hy), Bool.and_self]
theorem strs_shaped (l : List Str) (h : ∀ x ∈ l, PyData.canLay0 (.str x) = true) : shaped (.list (l.map PyData.str)) = true := by
  unfold shaped
  simp only [PyData.canLay0, PyData.depth, strs_lay l h, strs_depth, Bool.true_and]
  decide
theorem str_shaped {x : Str} (h : PyData.canLay0 (.str x) = true) : shaped (.str x) = true := by
  unfold shaped
  rw [h]
  simp [PyData.depth]
theorem eqv_str (x y : Str) : PyData.eqv (.str x) (.str y) = (x == y) := by simp only [PyData.eqv]
theorem in_strs {x : Str} {l : List Str} (hx : PyData.canLay0 (.str x) = true) (h : ∀ y ∈ l, PyData.canLay0 (.str y) = true) : inSeq (.str x) (l.map RV.str) .list = some (l.contains x) := by
  show (some (PyData.str x)).bind (fun d => (toPDs (l.map RV.str)).bind fun ds => anyP d ds (.list ds)) = _
  rw [strs_pd, Option.bind_some, Option.bind_some]
  unfold anyP
  rw [str_shaped hx, strs_shaped l h, Bool.and_self, if_pos rfl, List.any_map]
  congr 1
  induction l with
  | nil => rfl
  | cons y r ih =>
    rw [List.any_cons, List.contains_cons, ih fun z hz => h z (.tail _ hz)]
    congr 1
    show PyData.eqv (.str y) (.str x) = _
    rw [eqv_str]
    exact Bool.beq_comm
theorem keys_map {x : String} {body : RE} {f : RV → RV} {l : List RV} : ∀ {acc : List RV} {H : RH} {QL : PL}, (∀ v ∈ l, ∀ H', Ext H H' → wpE G (callU G n) body (setL x v loc) H' fun r H'' => r = f v ∧ Ext H' H'') → (∀ H', Ext H H' → QL (acc ++ l.map f) H') →
    wpKeys (fun v H' k => wpE G (callU G n) body (setL x v loc) H' k) l acc H QL := by
  induction l with
  | nil =>
    intro acc H QL z_ hQ
    have := hQ H (Ext.refl _)
    rw [List.map_nil, List.append_nil] at this
    exact this
  | cons v r ih_ =>
    intro acc H QL hv hQ
    show wpE G (callU G n) body (setL x v loc) H fun u H' => wpKeys (fun v H' k => wpE G (callU G n) body (setL x v loc) H' k) r (acc ++ [u]) H' QL
    refine wpE_mono (hv v (.head _) H (Ext.refl _)) fun u H' h => ?_
    (revert h; refine ob_Ar fun o1_ y => ?_; subst o1_)
    refine ih_ (fun w hw H'' z => hv w (.tail _ hw) H'' (y.trans z)) fun H'' z => ?_
    have := hQ H'' (y.trans z)
    rw [List.map_cons] at this
    rw [List.append_assoc]
    exact this
theorem keysT_map {x : String} {body : RE} {f : RV → RV} {l : List RV} {QL : PL} (hv : ∀ v ∈ l, ∀ H', Ext H H' → wpE G (callU G n) body (setL x v loc) H' fun r H'' => r = f v ∧ Ext H' H'') (hQ : ∀ H', Ext H H' → QL (l.map f) H') : KeysT G (callU G n) x body loc l H QL :=
  keys_map hv fun H' y => hQ H' y
noncomputable def leavesOk {α : Type} (n : Nat) (p : α → Bool) : KasT α → Bool
  | .ret a => p a
  | .ask i j k => decide (i < n ∧ j < n) && leavesOk n p (k true) && leavesOk n p (k false)
theorem leaves_of {α : Type} {n : Nat} {p : α → Bool} {lt : Nat → Nat → Bool} : ∀ (t : KasT α), leavesOk n p t = true → ∃ r, kasEv n lt t = some r ∧ p r = true
  | .ret a, h => ⟨a, rfl, h⟩
  | .ask i j k, h => by
    refine ob_A (Bool.and_eq_true_iff.mp (show (decide (i < n ∧ j < n) && leavesOk n p (k true) && leavesOk n p (k false)) = true from h)) fun h h3 => ?_
    refine ob_A (Bool.and_eq_true_iff.mp h) fun h1 h2 => ?_
    show ∃ r, (if i < n ∧ j < n then kasEv n lt (k (lt i j)) else none) = some r ∧ _
    rw [if_pos (of_decide_eq_true h1)]
    cases lt i j with
    | true => exact leaves_of (k true) h2
    | false => exact leaves_of (k false) h3
theorem sort4 (lt : Nat → Nat → Bool) : ∃ p, kasEv 4 lt (kas_sort 4) = some p ∧ p.toList.Perm [0, 1, 2, 3] := by
  have h : leavesOk 4 (fun q : Array Nat => decide (q.toList.Perm [0, 1, 2, 3])) (kas_sort 4) = true := by kernel_rfl
  refine ob_EA (leaves_of (lt := lt) _ h) fun r h1 h2 => ?_
  exact ⟨r, h1, of_decide_eq_true h2⟩
end
end Mine
section
set_option maxHeartbeats 0
namespace Mine
open PySem PySem.W PySem.Calls PyProof.Rows PySem.SeqAt
noncomputable def L08_Ship___init__ : RFn := { params := ["self", "pairs", "rows", "tiers", "stack_weight", "stack_height", "plugs", "closed"], dflts := [.tup [], .tup []], body := [
  .ite (.boolop false [(.cmp (.loc "pairs") [.Lt] [(.const (.int 1))]), (.cmp (.loc "rows") [.Lt] [(.const (.int 1))]), (.cmp (.loc "tiers") [.Lt] [(.const (.int 1))]), (.cmp (.loc "stack_weight") [.Lt] [(.const (.int 0))]), (.cmp (.loc "stack_height") [.Lt] [(.const (.int 0))])]) [.raise_] [],
  .asgAttr (.loc "self") "bays" (.bin .Mult (.const (.int 2)) (.loc "pairs")),
  .asgAttr (.loc "self") "rows" (.loc "rows"),
  .asgAttr (.loc "self") "tiers" (.loc "tiers"),
  .asgAttr (.loc "self") "stack_weight" (.loc "stack_weight"),
  .asgAttr (.loc "self") "stack_height" (.loc "stack_height"),
  .asgAttr (.loc "self") "closed" (.call (.glb "set") []),
  .asgAttr (.loc "self") "plugs" (.call (.glb "set") []),
  .for_ (.name "slot") (.loc "closed") [.expr (.meth (.loc "self") "check" [(.loc "slot")]), .expr (.meth (.attr (.loc "self") "closed") "add" [(.loc "slot")])],
  .for_ (.name "slot") (.loc "plugs") [.expr (.meth (.loc "self") "check" [(.loc "slot")]), .expr (.meth (.attr (.loc "self") "plugs") "add" [(.loc "slot")])],
  .for_ (.names ["bay", "row", "tier"]) (.attr (.loc "self") "closed") [.ite (.boolop true [(.cmp (.loc "tier") [.Gt] [(.const (.int 0))]), (.cmp (.tup [(.loc "bay"), (.loc "row"), (.bin .Sub (.loc "tier") (.const (.int 1)))]) [.NotIn] [(.attr (.loc "self") "closed")])]) [.raise_] []]] }
noncomputable def L08_Ship_check : RFn := { params := ["self", "slot"], dflts := [], body := [
  .ite (.not (.meth (.loc "self") "has" [(.loc "slot")])) [.raise_] []] }
noncomputable def L08_Ship_has : RFn := { params := ["self", "slot"], dflts := [], body := [
  .asg (.names ["bay", "row", "tier"]) (.loc "slot"),
  .ret (some (.boolop true [(.cmp (.const (.int 0)) [.LtE, .Lt] [(.loc "bay"), (.attr (.loc "self") "bays")]), (.cmp (.const (.int 0)) [.LtE, .Lt] [(.loc "row"), (.attr (.loc "self") "rows")]), (.cmp (.const (.int 0)) [.LtE, .Lt] [(.loc "tier"), (.attr (.loc "self") "tiers")])]))] }
noncomputable def L08_Ship_slots : RFn := { params := ["self"], dflts := [], body := [
  .asg (.name "found") (.list []),
  .for_ (.name "bay") (.call (.glb "range") [(.attr (.loc "self") "bays")]) [.for_ (.name "row") (.call (.glb "range") [(.attr (.loc "self") "rows")]) [.for_ (.name "tier") (.call (.glb "range") [(.attr (.loc "self") "tiers")]) [.ite (.cmp (.tup [(.loc "bay"), (.loc "row"), (.loc "tier")]) [.NotIn] [(.attr (.loc "self") "closed")]) [.expr (.meth (.loc "found") "append" [(.tup [(.loc "bay"), (.loc "row"), (.loc "tier")])])] []]]],
  .ret (some (.loc "found"))] }
noncomputable def L08_Ship_room : RFn := { params := ["self"], dflts := [], body := [
  .ret (some (.call (.glb "len") [(.meth (.loc "self") "slots" [])]))] }
noncomputable def L08_is_word : RFn := { params := ["name"], dflts := [], body := [
  .ret (some (.boolop true [(.cmp (.meth (.loc "name") "split" []) [.Eq] [(.list [(.loc "name")])]), (.cmp (.const (.str (PySem.Str.ofString "#"))) [.NotIn] [(.loc "name")])]))] }
noncomputable def L08_Container___init__ : RFn := { params := ["self", "name", "load", "discharge", "length", "weight", "kind", "cooled", "hazard"], dflts := [.int 20, .int 10, .str (PySem.Str.ofString "plain"), .bool false, .int 0], body := [
  .ite (.not (.call (.glb "is_word") [(.loc "name")])) [.raise_] [],
  .ite (.cmp (.loc "length") [.NotIn] [(.tup [(.glb "SHORT"), (.glb "LONG")])]) [.raise_] [],
  .ite (.cmp (.loc "kind") [.NotIn] [(.glb "HEIGHTS")]) [.raise_] [],
  .ite (.boolop false [(.cmp (.loc "load") [.Lt] [(.const (.int 0))]), (.cmp (.loc "discharge") [.LtE] [(.loc "load")])]) [.raise_] [],
  .ite (.cmp (.loc "weight") [.Lt] [(.const (.int 1))]) [.raise_] [],
  .ite (.boolop false [(.cmp (.loc "hazard") [.Lt] [(.const (.int 0))]), (.cmp (.loc "hazard") [.Gt] [(.const (.int 4))])]) [.raise_] [],
  .asgAttr (.loc "self") "name" (.loc "name"),
  .asgAttr (.loc "self") "load" (.loc "load"),
  .asgAttr (.loc "self") "discharge" (.loc "discharge"),
  .asgAttr (.loc "self") "length" (.loc "length"),
  .asgAttr (.loc "self") "weight" (.loc "weight"),
  .asgAttr (.loc "self") "kind" (.loc "kind"),
  .asgAttr (.loc "self") "cooled" (.loc "cooled"),
  .asgAttr (.loc "self") "hazard" (.loc "hazard")] }
noncomputable def L08_Container_key : RFn := { params := ["self"], dflts := [], body := [
  .ret (some (.tup [(.attr (.loc "self") "name"), (.attr (.loc "self") "load"), (.attr (.loc "self") "discharge"), (.attr (.loc "self") "length"), (.attr (.loc "self") "weight"), (.attr (.loc "self") "kind"), (.attr (.loc "self") "cooled"), (.attr (.loc "self") "hazard")]))] }
noncomputable def L08_Container_height : RFn := { params := ["self"], dflts := [], body := [
  .ret (some (.sub (.glb "HEIGHTS") (.attr (.loc "self") "kind")))] }
noncomputable def L08_Container_is_long : RFn := { params := ["self"], dflts := [], body := [
  .ret (some (.cmp (.attr (.loc "self") "length") [.Eq] [(.glb "LONG")]))] }
noncomputable def L08_Container_slots : RFn := { params := ["self", "slot"], dflts := [], body := [
  .asg (.names ["bay", "row", "tier"]) (.loc "slot"),
  .ite (.meth (.loc "self") "is_long" []) [.asg (.name "first") (.bin .Sub (.loc "bay") (.bin .Mod (.loc "bay") (.const (.int 2)))), .ret (some (.list [(.tup [(.loc "first"), (.loc "row"), (.loc "tier")]), (.tup [(.bin .Add (.loc "first") (.const (.int 1))), (.loc "row"), (.loc "tier")])]))] [],
  .ret (some (.list [(.loc "slot")]))] }
noncomputable def L08_Container_is_on_leg : RFn := { params := ["self", "leg"], dflts := [], body := [
  .ret (some (.cmp (.attr (.loc "self") "load") [.LtE, .Lt] [(.loc "leg"), (.attr (.loc "self") "discharge")]))] }
noncomputable def L08_Booking___init__ : RFn := { params := ["self", "container", "fee"], dflts := [], body := [
  .ite (.cmp (.loc "fee") [.Lt] [(.const (.int 0))]) [.raise_] [],
  .asgAttr (.loc "self") "container" (.loc "container"),
  .asgAttr (.loc "self") "fee" (.loc "fee")] }
noncomputable def L08_Booking_units : RFn := { params := ["self"], dflts := [], body := [
  .ret (some (.cond (.meth (.attr (.loc "self") "container") "is_long" []) (.const (.int 2)) (.const (.int 1))))] }
noncomputable def L08_Booking_legs : RFn := { params := ["self"], dflts := [], body := [
  .ret (some (.call (.glb "range") [(.attr (.attr (.loc "self") "container") "load"), (.attr (.attr (.loc "self") "container") "discharge")]))] }
noncomputable def L08_Booking_worth : RFn := { params := ["self"], dflts := [], body := [
  .ret (some (.bin .FloorDiv (.bin .Mult (.attr (.loc "self") "fee") (.const (.int 1000))) (.bin .Mult (.meth (.loc "self") "units" []) (.call (.glb "len") [(.meth (.loc "self") "legs" [])]))))] }
noncomputable def L08_Book___init__ : RFn := { params := ["self", "ship", "ports", "weight"], dflts := [], body := [
  .asgAttr (.loc "self") "ship" (.loc "ship"),
  .asgAttr (.loc "self") "ports" (.call (.glb "tuple") [(.loc "ports")]),
  .asgAttr (.loc "self") "weight" (.loc "weight"),
  .asgAttr (.loc "self") "taken" (.list [])] }
noncomputable def L08_Book_legs : RFn := { params := ["self"], dflts := [], body := [
  .ret (some (.bin .Sub (.call (.glb "len") [(.attr (.loc "self") "ports")]) (.const (.int 1))))] }
noncomputable def L08_Book_used : RFn := { params := ["self", "leg"], dflts := [], body := [
  .asg (.name "here") (.comp1 (.loc "booking") "booking" (.attr (.loc "self") "taken") [(.cmp (.loc "leg") [.In] [(.meth (.loc "booking") "legs" [])])]),
  .asg (.name "units") (.call (.glb "sum") [(.comp1 (.meth (.loc "booking") "units" []) "booking" (.loc "here") [])]),
  .asg (.name "weight") (.call (.glb "sum") [(.comp1 (.attr (.attr (.loc "booking") "container") "weight") "booking" (.loc "here") [])]),
  .asg (.name "plugs") (.call (.glb "len") [(.comp1 (.loc "booking") "booking" (.loc "here") [(.attr (.attr (.loc "booking") "container") "cooled")])]),
  .ret (some (.tup [(.loc "units"), (.loc "weight"), (.loc "plugs")]))] }
noncomputable def L08_Book_left : RFn := { params := ["self", "leg"], dflts := [], body := [
  .asg (.names ["units", "weight", "plugs"]) (.meth (.loc "self") "used" [(.loc "leg")]),
  .ret (some (.tup [(.bin .Sub (.meth (.attr (.loc "self") "ship") "room" []) (.loc "units")), (.bin .Sub (.attr (.loc "self") "weight") (.loc "weight")), (.bin .Sub (.call (.glb "len") [(.comp1 (.loc "slot") "slot" (.attr (.attr (.loc "self") "ship") "plugs") [(.cmp (.loc "slot") [.NotIn] [(.attr (.attr (.loc "self") "ship") "closed")])])]) (.loc "plugs"))]))] }
noncomputable def L08_Book_can_take : RFn := { params := ["self", "booking"], dflts := [], body := [
  .ite (.cmp (.attr (.attr (.loc "booking") "container") "discharge") [.Gt] [(.meth (.loc "self") "legs" [])]) [.ret (some (.const (.bool false)))] [],
  .ite (.cmp (.attr (.attr (.loc "booking") "container") "name") [.In] [(.comp1 (.attr (.attr (.loc "other") "container") "name") "other" (.attr (.loc "self") "taken") [])]) [.ret (some (.const (.bool false)))] [],
  .for_ (.name "leg") (.meth (.loc "booking") "legs" []) [.asg (.names ["units", "weight", "plugs"]) (.meth (.loc "self") "left" [(.loc "leg")]), .ite (.boolop false [(.cmp (.meth (.loc "booking") "units" []) [.Gt] [(.loc "units")]), (.cmp (.attr (.attr (.loc "booking") "container") "weight") [.Gt] [(.loc "weight")])]) [.ret (some (.const (.bool false)))] [], .ite (.boolop true [(.attr (.attr (.loc "booking") "container") "cooled"), (.cmp (.loc "plugs") [.Lt] [(.const (.int 1))])]) [.ret (some (.const (.bool false)))] []],
  .ret (some (.const (.bool true)))] }
noncomputable def L08_Book_take : RFn := { params := ["self", "booking"], dflts := [], body := [
  .ite (.cmp (.attr (.attr (.loc "booking") "container") "name") [.In] [(.comp1 (.attr (.attr (.loc "other") "container") "name") "other" (.attr (.loc "self") "taken") [])]) [.raise_] [],
  .ite (.not (.meth (.loc "self") "can_take" [(.loc "booking")])) [.raise_] [],
  .expr (.meth (.attr (.loc "self") "taken") "append" [(.loc "booking")]),
  .ret (some (.loc "self"))] }
noncomputable def L08_accept : RFn := { params := ["book", "bookings"], dflts := [], body := [
  .asg (.name "refused") (.list []),
  .asg (.name "order") (.sortk (.call (.glb "range") [(.call (.glb "len") [(.loc "bookings")])]) "place" (.tup [(.neg (.meth (.sub (.loc "bookings") (.loc "place")) "worth" [])), (.loc "place")]) 0),
  .for_ (.name "place") (.loc "order") [.ite (.meth (.loc "book") "can_take" [(.sub (.loc "bookings") (.loc "place"))]) [.expr (.meth (.loc "book") "take" [(.sub (.loc "bookings") (.loc "place"))])] [.expr (.meth (.loc "refused") "append" [(.attr (.attr (.sub (.loc "bookings") (.loc "place")) "container") "name")])]],
  .ret (some (.call (.glb "sorted") [(.loc "refused")]))], tab := some 0 }
noncomputable def L08__law_cell : RFn := cellFn
noncomputable def L08_law : RFn := { params := ["script"], dflts := [], body := [
  .asg (.name "closed") (.comp1 (.tup [(.const (.int 0)), (.loc "r"), (.const (.int 0))]) "r" (.call (.glb "range") [(.const (.int 3))]) [(.bin .Mod (.call (.glb "_law_cell") [(.loc "script"), (.loc "r")]) (.const (.int 2)))]),
  .asg (.name "ship") (.call (.glb "Ship") [(.const (.int 1)), (.const (.int 3)), (.const (.int 2)), (.const (.int 99)), (.const (.int 99)), (.list [(.tup [(.const (.int 0)), (.const (.int 0)), (.const (.int 0))]), (.tup [(.const (.int 0)), (.const (.int 1)), (.const (.int 0))]), (.tup [(.const (.int 0)), (.const (.int 2)), (.const (.int 0))])]), (.loc "closed")]),
  .asg (.name "book") (.call (.glb "Book") [(.loc "ship"), (.list [(.const (.str (PySem.Str.ofString "p"))), (.const (.str (PySem.Str.ofString "q")))]), (.const (.int 999))]),
  .asg (.name "rows") (.comp1 (.call (.glb "Booking") [(.call (.glb "Container") [(.sub (.const (.str (PySem.Str.ofString "abcd"))) (.bin .Mod (.call (.glb "_law_cell") [(.loc "script"), (.bin .Add (.const (.int 3)) (.loc "k"))]) (.const (.int 4)))), (.const (.int 0)), (.const (.int 1)), (.const (.int 20)), (.const (.int 1)), (.const (.str (PySem.Str.ofString "plain"))), (.const (.bool true))]), (.bin .Mod (.call (.glb "_law_cell") [(.loc "script"), (.bin .Add (.const (.int 7)) (.loc "k"))]) (.const (.int 50)))]) "k" (.call (.glb "range") [(.const (.int 4))]) []),
  .asg (.name "refused") (.call (.glb "accept") [(.loc "book"), (.loc "rows")]),
  .asg (.name "names") (.comp1 (.attr (.attr (.loc "b") "container") "name") "b" (.attr (.loc "book") "taken") []),
  .ite (.cmp (.call (.glb "len") [(.call (.glb "set") [(.loc "names")])]) [.NotEq] [(.call (.glb "len") [(.loc "names")])]) [.ret (some (.const (.bool false)))] [],
  .ite (.cmp (.call (.glb "len") [(.loc "names")]) [.NotEq] [(.call (.glb "min") [(.bin .Sub (.const (.int 3)) (.call (.glb "len") [(.loc "closed")])), (.call (.glb "len") [(.call (.glb "set") [(.comp1 (.attr (.attr (.loc "b") "container") "name") "b" (.loc "rows") [])])])])]) [.ret (some (.const (.bool false)))] [],
  .ret (some (.cmp (.bin .Add (.call (.glb "len") [(.loc "refused")]) (.call (.glb "len") [(.loc "names")])) [.Eq] [(.const (.int 4))]))] }
noncomputable def L08 : RProg where
  funs := [("is_word", L08_is_word), ("accept", L08_accept), ("_law_cell", L08__law_cell), ("law", L08_law)]
  clss := [("Ship", { ms := [("__init__", L08_Ship___init__), ("check", L08_Ship_check), ("has", L08_Ship_has), ("slots", L08_Ship_slots), ("room", L08_Ship_room)], attrs := ["bays", "rows", "tiers", "stack_weight", "stack_height", "closed", "plugs"] }), ("Container", { ms := [("__init__", L08_Container___init__), ("key", L08_Container_key), ("height", L08_Container_height), ("is_long", L08_Container_is_long), ("slots", L08_Container_slots), ("is_on_leg", L08_Container_is_on_leg)], attrs := ["name", "load", "discharge", "length", "weight", "kind", "cooled", "hazard"] }), ("Booking", { ms := [("__init__", L08_Booking___init__), ("units", L08_Booking_units), ("legs", L08_Booking_legs), ("worth", L08_Booking_worth)], attrs := ["container", "fee"] }), ("Book", { ms := [("__init__", L08_Book___init__), ("legs", L08_Book_legs), ("used", L08_Book_used), ("left", L08_Book_left), ("can_take", L08_Book_can_take), ("take", L08_Book_take)], attrs := ["ship", "ports", "weight", "taken"] })]
  tabs := [443]
  vals := [("SHORT", .int 20), ("LONG", .int 40), ("HEIGHTS", .fdict [(PySem.Str.ofString "plain", .int 26), (PySem.Str.ofString "high", .int 29)])]
theorem L08f_g_is_word : globR L08 "is_word" = some (.fn "is_word") := by kernel_rfl
theorem L08f_l_is_word : L08.funs.lookup "is_word" = some L08_is_word := by kernel_rfl
theorem L08f_c_is_word : callable L08 (.fn "is_word") = true := by kernel_rfl
theorem L08f_g_accept : globR L08 "accept" = some (.fn "accept") := by kernel_rfl
theorem L08f_l_accept : L08.funs.lookup "accept" = some L08_accept := by kernel_rfl
theorem L08f_c_accept : callable L08 (.fn "accept") = true := by kernel_rfl
theorem L08f_g__law_cell : globR L08 "_law_cell" = some (.fn "_law_cell") := by kernel_rfl
theorem L08f_l__law_cell : L08.funs.lookup "_law_cell" = some L08__law_cell := by kernel_rfl
theorem L08f_c__law_cell : callable L08 (.fn "_law_cell") = true := by kernel_rfl
theorem L08f_g_law : globR L08 "law" = some (.fn "law") := by kernel_rfl
theorem L08f_l_law : L08.funs.lookup "law" = some L08_law := by kernel_rfl
theorem L08f_c_law : callable L08 (.fn "law") = true := by kernel_rfl
theorem L08f_g_Ship : globR L08 "Ship" = some (.cls "Ship") := by kernel_rfl
theorem L08f_m_Ship___init__ : (L08.clss.lookup "Ship").bind (fun k => k.ms.lookup "__init__") = some L08_Ship___init__ := by kernel_rfl
theorem L08f_m_Ship_check : (L08.clss.lookup "Ship").bind (fun k => k.ms.lookup "check") = some L08_Ship_check := by kernel_rfl
theorem L08f_m_Ship_has : (L08.clss.lookup "Ship").bind (fun k => k.ms.lookup "has") = some L08_Ship_has := by kernel_rfl
theorem L08f_m_Ship_slots : (L08.clss.lookup "Ship").bind (fun k => k.ms.lookup "slots") = some L08_Ship_slots := by kernel_rfl
theorem L08f_m_Ship_room : (L08.clss.lookup "Ship").bind (fun k => k.ms.lookup "room") = some L08_Ship_room := by kernel_rfl
theorem L08f_c_Ship : callable L08 (.cls "Ship") = true := by kernel_rfl
theorem L08f_a_Ship_bays : attrOk L08 "Ship" "bays" = true := by kernel_rfl
theorem L08f_a_Ship_rows : attrOk L08 "Ship" "rows" = true := by kernel_rfl
theorem L08f_a_Ship_tiers : attrOk L08 "Ship" "tiers" = true := by kernel_rfl
theorem L08f_a_Ship_stack_weight : attrOk L08 "Ship" "stack_weight" = true := by kernel_rfl
theorem L08f_a_Ship_stack_height : attrOk L08 "Ship" "stack_height" = true := by kernel_rfl
theorem L08f_a_Ship_closed : attrOk L08 "Ship" "closed" = true := by kernel_rfl
theorem L08f_a_Ship_plugs : attrOk L08 "Ship" "plugs" = true := by kernel_rfl
theorem L08f_g_Container : globR L08 "Container" = some (.cls "Container") := by kernel_rfl
theorem L08f_m_Container___init__ : (L08.clss.lookup "Container").bind (fun k => k.ms.lookup "__init__") = some L08_Container___init__ := by kernel_rfl
theorem L08f_m_Container_is_long : (L08.clss.lookup "Container").bind (fun k => k.ms.lookup "is_long") = some L08_Container_is_long := by kernel_rfl
theorem L08f_c_Container : callable L08 (.cls "Container") = true := by kernel_rfl
theorem L08f_a_Container_name : attrOk L08 "Container" "name" = true := by kernel_rfl
theorem L08f_a_Container_load : attrOk L08 "Container" "load" = true := by kernel_rfl
theorem L08f_a_Container_discharge : attrOk L08 "Container" "discharge" = true := by kernel_rfl
theorem L08f_a_Container_length : attrOk L08 "Container" "length" = true := by kernel_rfl
theorem L08f_a_Container_weight : attrOk L08 "Container" "weight" = true := by kernel_rfl
theorem L08f_a_Container_kind : attrOk L08 "Container" "kind" = true := by kernel_rfl
theorem L08f_a_Container_cooled : attrOk L08 "Container" "cooled" = true := by kernel_rfl
theorem L08f_a_Container_hazard : attrOk L08 "Container" "hazard" = true := by kernel_rfl
theorem L08f_g_Booking : globR L08 "Booking" = some (.cls "Booking") := by kernel_rfl
theorem L08f_m_Booking___init__ : (L08.clss.lookup "Booking").bind (fun k => k.ms.lookup "__init__") = some L08_Booking___init__ := by kernel_rfl
theorem L08f_m_Booking_units : (L08.clss.lookup "Booking").bind (fun k => k.ms.lookup "units") = some L08_Booking_units := by kernel_rfl
theorem L08f_m_Booking_legs : (L08.clss.lookup "Booking").bind (fun k => k.ms.lookup "legs") = some L08_Booking_legs := by kernel_rfl
theorem L08f_m_Booking_worth : (L08.clss.lookup "Booking").bind (fun k => k.ms.lookup "worth") = some L08_Booking_worth := by kernel_rfl
theorem L08f_c_Booking : callable L08 (.cls "Booking") = true := by kernel_rfl
theorem L08f_a_Booking_container : attrOk L08 "Booking" "container" = true := by kernel_rfl
theorem L08f_a_Booking_fee : attrOk L08 "Booking" "fee" = true := by kernel_rfl
theorem L08f_g_Book : globR L08 "Book" = some (.cls "Book") := by kernel_rfl
theorem L08f_m_Book___init__ : (L08.clss.lookup "Book").bind (fun k => k.ms.lookup "__init__") = some L08_Book___init__ := by kernel_rfl
theorem L08f_m_Book_legs : (L08.clss.lookup "Book").bind (fun k => k.ms.lookup "legs") = some L08_Book_legs := by kernel_rfl
theorem L08f_m_Book_used : (L08.clss.lookup "Book").bind (fun k => k.ms.lookup "used") = some L08_Book_used := by kernel_rfl
theorem L08f_m_Book_left : (L08.clss.lookup "Book").bind (fun k => k.ms.lookup "left") = some L08_Book_left := by kernel_rfl
theorem L08f_m_Book_can_take : (L08.clss.lookup "Book").bind (fun k => k.ms.lookup "can_take") = some L08_Book_can_take := by kernel_rfl
theorem L08f_m_Book_take : (L08.clss.lookup "Book").bind (fun k => k.ms.lookup "take") = some L08_Book_take := by kernel_rfl
theorem L08f_c_Book : callable L08 (.cls "Book") = true := by kernel_rfl
theorem L08f_a_Book_ship : attrOk L08 "Book" "ship" = true := by kernel_rfl
theorem L08f_a_Book_ports : attrOk L08 "Book" "ports" = true := by kernel_rfl
theorem L08f_a_Book_weight : attrOk L08 "Book" "weight" = true := by kernel_rfl
theorem L08f_a_Book_taken : attrOk L08 "Book" "taken" = true := by kernel_rfl
theorem L08f_g_len : globR L08 "len" = some (.bi "len") := by kernel_rfl
theorem L08f_g_sorted : globR L08 "sorted" = some (.bi "sorted") := by kernel_rfl
theorem L08f_g_sum : globR L08 "sum" = some (.bi "sum") := by kernel_rfl
theorem L08f_g_min : globR L08 "min" = some (.bi "min") := by kernel_rfl
theorem L08f_g_range : globR L08 "range" = some (.ty "range") := by kernel_rfl
theorem L08f_g_set : globR L08 "set" = some (.ty "set") := by kernel_rfl
theorem L08f_g_tuple : globR L08 "tuple" = some (.ty "tuple") := by kernel_rfl
theorem L08f_cb (x : String) : callable L08 (.bi x) = true := rfl
theorem L08f_ct (x : String) : callable L08 (.ty x) = true := rfl
end Mine
end
namespace Mine
open PySem PySem.W PySem.Calls PyProof.Rows PySem.SeqAt
theorem n_bi (i : Int) : isBi (.int i) = false := rfl
theorem n_bs (x : Str) : isBi (.str x) = false := rfl
theorem n_br (i : Nat) : isBi (.ref i) = false := rfl
theorem n_bb (b : Bool) : isBi (.bool b) = false := rfl
theorem n_bt (l : List RV) : isBi (.tup l) = false := rfl
theorem n_bn : isBi .none = false := rfl
theorem n_bg (a b c : Int) : isBi (.rng a b c) = false := rfl
theorem n_rr (v : RV) : retV (.ret v) = v := rfl
theorem n_rn : retV .next = .none := rfl
theorem n_ii (i : Int) : asI (.int i) = some i := rfl
theorem n_is (x : Str) : asI (.str x) = none := rfl
theorem n_ir (i : Nat) : asI (.ref i) = none := rfl
theorem n_ss (x : Str) : asS (.str x) = some x := rfl
theorem n_si (i : Int) : asS (.int i) = none := rfl
theorem n_sr (i : Nat) : asS (.ref i) = none := rfl
theorem n_tt (l : List RV) : asT (.tup l) = some l := rfl
theorem n_tr (i : Nat) : asT (.ref i) = none := rfl
theorem n_ti (i : Int) : asT (.int i) = none := rfl
theorem n_ts (x : Str) : asT (.str x) = none := rfl
set_option compiler.extract_closed false
local macro_rules | `(tactic| walk_at "w1") => `(tactic| try (simp only [s_ss0, s_opt, e_const, e_loc, e_glb, e_bool, e_bin, e_not, e_neg, e_cond, e_list, e_tup, e_comp1, e_cmp, e_call, e_meth, e_attr, e_sub, e_sortk, t_expr, t_ret, t_asg, t_asgA, t_ite, t_for, t_raise, s_tb, s_ti, s_lt, s_le, s_gt, s_eqi, s_nei, s_in, s_nin, s_add, s_sub, s_mul, s_div, s_mod, s_fld, s_sfl, s_fldO, s_sflO, s_lstO, s_setO, s_sta, s_mth, s_mI, s_mL, s_mS, s_subr, s_subO, s_lenr, s_lenL, s_srcr, s_srcL, s_srcS, s_srcR, s_inr, s_inL, s_inS, s_inR, s_split, s_own, s_blt, s_lst, s_apd, s_spl, s_fn, s_cls, s_len, s_srt, s_sum, s_min, s_rg1, s_rg2, s_set0, s_set1, s_lss, s_lt', Option.bind_some, Option.map_some, Option.isSome_some, Option.isSome_none, List.lookup_nil, List.lookup_cons, Bool.false_eq_true, if_true, if_false, Bool.true_and, true_and, and_true, decide_true, decide_false, s_nt3, s_tun, s_tur, s_nt, Bool.not_true, Bool.not_false, beq_self_eq_true, lookup_setL', s_lrng, List.length_cons, List.length_nil, L08f_g_is_word, L08f_l_is_word, L08f_c_is_word, L08f_g_accept, L08f_l_accept, L08f_c_accept, L08f_g__law_cell, L08f_l__law_cell, L08f_c__law_cell, L08f_g_law, L08f_l_law, L08f_c_law, L08f_g_Ship, L08f_m_Ship___init__, L08f_m_Ship_check, L08f_m_Ship_has, L08f_m_Ship_slots, L08f_m_Ship_room, L08f_c_Ship, L08f_a_Ship_bays, L08f_a_Ship_rows, L08f_a_Ship_tiers, L08f_a_Ship_stack_weight, L08f_a_Ship_stack_height, L08f_a_Ship_closed, L08f_a_Ship_plugs, L08f_g_Container, L08f_m_Container___init__, L08f_m_Container_is_long, L08f_c_Container, L08f_a_Container_name, L08f_a_Container_load, L08f_a_Container_discharge, L08f_a_Container_length, L08f_a_Container_weight, L08f_a_Container_kind, L08f_a_Container_cooled, L08f_a_Container_hazard, L08f_g_Booking, L08f_m_Booking___init__, L08f_m_Booking_units, L08f_m_Booking_legs, L08f_m_Booking_worth, L08f_c_Booking, L08f_a_Booking_container, L08f_a_Booking_fee, L08f_g_Book, L08f_m_Book___init__, L08f_m_Book_legs, L08f_m_Book_used, L08f_m_Book_left, L08f_m_Book_can_take, L08f_m_Book_take, L08f_c_Book, L08f_a_Book_ship, L08f_a_Book_ports, L08f_a_Book_weight, L08f_a_Book_taken, L08f_g_len, L08f_g_sorted, L08f_g_sum, L08f_g_min, L08f_g_range, L08f_g_set, L08f_g_tuple, L08f_cb, L08f_ct, c_not, c_bool, c_cmp, c_loc, c_bin, c_call, c_meth, c_attr, c_ts0, c_ts1, c_if0, c_if1, c_es0, c_es1, c_bo1, c_bo2, c_cm1, c_cm2, c_ct1, c_ct2, n_bi, n_bs, n_br, n_bb, n_bt, n_bn, n_bg, String.reduceBEq, String.reduceEq, n_rr, n_rn, n_ii, n_is, n_ir, n_ss, n_si, n_sr, n_tt, n_tr, n_ti, n_ts, reduceCtorEq, Int.reduceLT, Int.reduceLE, Int.reduceMul, Int.reduceAdd, Int.reduceSub, Nat.reduceLT, Nat.reduceAdd, *]))
local macro_rules | `(tactic| walk_at "wp") => `(tactic| (walk_at "w1"; repeat (with_reducible refine s_ssI ?_; walk_at "w1")))
namespace L8
section
variable {H : RH} {Q : PV} {n : Nat}
set_option hygiene false in
abbrev bkO (c : Nat) (f : Int) : RO := .inst "Booking" [("container", .ref c), ("fee", .int f)]
abbrev cnO (s : Str) : RO := .inst "Container" [("name", .str s), ("load", .int 0), ("discharge", .int 1), ("length", .int 20), ("weight", .int 1), ("kind", .str (Str.ofString "plain")), ("cooled", .bool true), ("hazard", .int 0)]
def Bk (H : RH) (b : Nat) (s : Str) (f : Int) : Prop := ∃ c, H[b]? = some (bkO c f) ∧ H[c]? = some (cnO s)
theorem Bk.ext {H' : RH} {b : Nat} {s : Str} {f : Int} (h : Bk H b s f) (x : Ext H H') : Bk H' b s f := let ⟨c, h1, h2⟩ := h; ⟨c, x _ _ h1, x _ _ h2⟩
theorem L08f_LONG : globR L08 "LONG" = some (.int 40) := by kernel_rfl
theorem L08f_SHORT : globR L08 "SHORT" = some (.int 20) := by kernel_rfl
theorem b1 (x : String) (v : RV) : bindR [x] [] [v] = some [(x, v)] := rfl
theorem b2 (x y : String) (v u : RV) : bindR [x, y] [] [v, u] = some [(x, v), (y, u)] := rfl
theorem is_long_ok {c : Nat} {s : Str} (hc : H[c]? = some (cnO s)) (q : Q (.bool false) H) : callU L08 (n + 1) L08_Container_is_long [.ref c] H Q := by
  rw [s_call, L08_Container_is_long, b1]
  walk_at "wp"
  simp only [L08f_LONG, s_opt, s_eqi]
  exact q
theorem units_ok {b : Nat} {f : Int} {s : Str} (hb : Bk H b s f) (q : Q (.int 1) H) : callU L08 (n + 2) L08_Booking_units [.ref b] H Q := by
  (revert hb; refine ob_EAr fun c hb hc => ?_)
  rw [s_call, L08_Booking_units, b1]
  walk_at "wp"
  refine is_long_ok hc ?_
  walk_at "wp"
theorem legs_ok {b : Nat} {f : Int} {s : Str} (hb : Bk H b s f) (q : Q (.rng 0 1 1) H) : callU L08 (n + 1) L08_Booking_legs [.ref b] H Q := by
  (revert hb; refine ob_EAr fun c hb hc => ?_)
  rw [s_call, L08_Booking_legs, b1]
  walk_at "wp"
  exact ⟨by decide, by decide⟩
theorem worth_ok {b : Nat} {f : Int} {s : Str} (hb : Bk H b s f) (h0 : 0 ≤ f) (h1 : f < 50) (q : Q (.int (f * 1000)) H) : callU L08 (n + 3) L08_Booking_worth [.ref b] H Q := by
  rw [s_call, L08_Booking_worth, b1]
  have hb' := hb
  (revert hb'; refine ob_EAr fun c hc1 hc2 => ?_)
  walk_at "wp"
  refine ⟨by show f.natAbs < 2 ^ 64; omega, by decide, ?_⟩
  refine units_ok hb ?_
  walk_at "wp"
  refine legs_ok hb ?_
  walk_at "wp"
  refine ⟨by decide, by decide, by decide, by decide, ?_⟩
  have e : Int.fdiv (f * 1000) 1 = f * 1000 := Int.fdiv_one _
  have q' : Q (.int (Int.fdiv (f * 1000) 1)) H := by rw [e]; exact q
  exact q'
end
section
variable {H : RH} {Q : PV} {n : Nat}
abbrev boO (sh tk : Nat) : RO := .inst "Book" [("ship", .ref sh), ("ports", .tup [.str (Str.ofString "p"), .str (Str.ofString "q")]), ("weight", .int 999), ("taken", .ref tk)]
abbrev shO (cl pl : Nat) : RO := .inst "Ship" [("bays", .int 2), ("rows", .int 3), ("tiers", .int 2), ("stack_weight", .int 99), ("stack_height", .int 99), ("closed", .ref cl), ("plugs", .ref pl)]
def Bks (H : RH) (nm : Nat → Str) (ts : List Nat) : Prop := ∀ b ∈ ts, ∃ f, Bk H b (nm b) f
theorem Bks.ext {H' : RH} {nm : Nat → Str} {ts : List Nat} (h : Bks H nm ts) (x : Ext H H') : Bks H' nm ts := fun p hp => let ⟨f, h⟩ := h p hp; ⟨f, h.ext x⟩
abbrev refsOf (ts : List Nat) : List RV := ts.map RV.ref
theorem ones_sum : ∀ (ts : List Nat), ((ts.map fun z_ => (1 : Int))).sum = ts.length
  | [] => rfl
  | _ :: r => by simp only [List.map_cons, List.sum_cons, ones_sum r, List.length_cons]; omega
theorem intsP_map {α : Type} (g : α → Int) : ∀ l : List α, intsP (l.map fun a => RV.int (g a)) = some (l.map g)
  | [] => rfl
  | a :: r => by
    show (intsP (r.map fun a => RV.int (g a))).map (g a :: ·) = _
    rw [intsP_map g r]; rfl
theorem strsP_map {α : Type} (g : α → Str) : ∀ l : List α, strsP (l.map fun a => RV.str (g a)) = some (l.map g)
  | [] => rfl
  | a :: r => by
    show (strsP (r.map fun a => RV.str (g a))).map (g a :: ·) = _
    rw [strsP_map g r]; rfl
theorem s_ints {i : Nat} {vs : List RV} (h : H[i]? = some (.list vs)) : intsIn H (.ref i) = intsP vs := by
  show (lstAt H (.ref i)).bind _ = _
  rw [s_lst, h]; rfl
theorem mem_refs {ts : List Nat} {v : RV} (h : v ∈ refsOf ts) : ∃ p ∈ ts, v = .ref p := by
  refine ob_EA (List.mem_map.mp h) fun p hp e => ?_
  exact ⟨p, hp, e.symm⟩
theorem used_ok {k sh tk : Nat} {ts : List Nat} {nm : Nat → Str} (hk : H[k]? = some (boO sh tk)) (ht : H[tk]? = some (.list (refsOf ts))) (hb : Bks H nm ts) (hl : ts.length < 100)
    (q : ∀ H', Ext H H' → Q (.tup [.int ts.length, .int ts.length, .int ts.length]) H') : callU L08 (n + 3) L08_Book_used [.ref k, .int 0] H Q := by
  rw [s_call, L08_Book_used, b2]
  walk_at "wp"
  refine comp_map (goes_list ht) (by simp; omega) (fun z_ => true) id (fun v hv H₂ x => ?_) fun i₁ H₁ x₁ h₁ l₁ => ?_
  · (refine ob_EA (mem_refs hv) fun p hp o1_ => ?_; subst o1_)
    refine ob_E (hb.ext x p hp) fun f hB => ?_
    have hB' := hB
    (revert hB'; refine ob_EAr fun c hc1 hc2 => ?_)
    walk_at "wp"
    refine legs_ok hB ?_
    walk_at "wp"
    exact ⟨Ext.refl _, fun z_ => ⟨rfl, Ext.refl _⟩⟩
  have e1 : (refsOf ts).filter (fun z_ => true) = refsOf ts := by simp
  rw [e1, List.map_id] at h₁
  walk_at "wp"
  refine comp_map (goes_list h₁) (by simp; omega) (fun z_ => true) (fun z_ => .int 1) (fun v hv H₂ x => ?_) fun i₂ H₂ x₂ h₂ l₂ => ?_
  · (refine ob_EA (mem_refs hv) fun p hp o1_ => ?_; subst o1_)
    refine ob_E ((hb.ext x₁).ext x p hp) fun f hB => ?_
    have hB' := hB
    (revert hB'; refine ob_EAr fun c hc1 hc2 => ?_)
    walk_at "wp"
    refine ⟨Ext.refl _, fun z_ => ?_⟩
    refine units_ok hB ?_
    exact ⟨rfl, Ext.refl _⟩
  rw [e1] at h₂
  rw [show List.map (fun z_ => RV.int 1) (refsOf ts) = ts.map (fun z_ => RV.int 1) from List.map_map ..] at h₂
  rw [s_ints h₂, intsP_map (fun z_ => (1 : Int)), s_opt, ones_sum]
  have h₁' := x₂ _ _ h₁
  walk_at "wp"
  refine comp_map (goes_list h₁') (by simp; omega) (fun z_ => true) (fun z_ => .int 1) (fun v hv H₃ x => ?_) fun i₃ H₃ x₃ h₃ l₃ => ?_
  · (refine ob_EA (mem_refs hv) fun p hp o1_ => ?_; subst o1_)
    refine ob_EEA (((hb.ext x₁).ext x₂).ext x p hp) fun f c hc1 hc2 => ?_
    walk_at "wp"
    exact ⟨Ext.refl _, fun z_ => Ext.refl _⟩
  rw [e1, show List.map (fun z_ => RV.int 1) (refsOf ts) = ts.map (fun z_ => RV.int 1) from List.map_map ..] at h₃
  rw [s_ints h₃, intsP_map (fun z_ => (1 : Int)), s_opt, ones_sum]
  have h₁'' := x₃ _ _ h₁'
  walk_at "wp"
  refine comp_map (goes_list h₁'') (by simp; omega) (fun z_ => true) id (fun v hv H₄ x => ?_) fun i₄ H₄ x₄ h₄ l₄ => ?_
  · (refine ob_EA (mem_refs hv) fun p hp o1_ => ?_; subst o1_)
    refine ob_EEA ((((hb.ext x₁).ext x₂).ext x₃).ext x p hp) fun f c hc1 hc2 => ?_
    walk_at "wp"
    exact ⟨Ext.refl _, fun z_ => ⟨rfl, Ext.refl _⟩⟩
  rw [e1, List.map_id] at h₄
  walk_at "wp"
  rw [List.length_map]
  refine ⟨by show ts.length < 2 ^ 63; omega, ?_⟩
  walk_at "wp"
  exact ⟨by rw [sizeLine_eq]; omega, q _ (((x₁.trans x₂).trans x₃).trans x₄)⟩
end
section
variable {H : RH} {Q : PV} {n : Nat}
theorem slots_ok {sh cl pl ep : Nat} {es : List (Int × RV)} {t : SetTable} (hs : H[sh]? = some (shO cl pl)) (hc : H[cl]? = some (.set es ep t))
    (hin : ∀ b r u : Int, 0 ≤ b → b < 2 → 0 ≤ r → r < 3 → 0 ≤ u → u < 2 → ∃ z, inSet (.tup [.int b, .int r, .int u]) es t = some z ∧ (b = 1 → z = false))
    (q : ∀ H' f l, Ext H H' → H'[f]? = some (.list l) → 6 ≤ l.length → l.length ≤ 12 → Q (.ref f) H') : callU L08 (n + 1) L08_Ship_slots [.ref sh] H Q := by
  rw [s_call, L08_Ship_slots, b1]
  walk_at "wp"
  refine ⟨Nat.zero_le _, ?_⟩
  have x₀ := Ext.push H (.list [])
  have h₀ := get_new H (.list [])
  have hs₀ := x₀ _ _ hs
  have hc₀ := x₀ _ _ hc
  walk_at "wp"
  refine ⟨by decide, by decide, ?_⟩
  generalize hf : H.length = f at h₀ ⊢
  have old : ∀ i o, H[i]? = some o → i < f := fun i o e => hf ▸ lt_of_get e
  refine for_inv (vs := rngL 0 2 1) (fun k loc H' => loc.lookup "self" = some (.ref sh) ∧ loc.lookup "found" = some (.ref f) ∧ Ext H H' ∧ ∃ acc, H'[f]? = some (.list acc) ∧ acc.length ≤ 6 * k ∧ 6 * (k - 1) ≤ acc.length) (fun k loc H' h => rfl) (fun k loc H' v hi hv => ?_) (fun loc H' hi => ?_) ⟨rfl, rfl, x₀, [], h₀, Nat.zero_le _, Nat.le_refl _⟩
  · (revert hi; refine ob_AAAEAAr fun l1 l2 x acc ha b1 b2 => ?_)
    (refine ob_A (rngL_at hv) fun o1_ hk => ?_; subst o1_)
    have hs₁ := x _ _ hs
    have hc₁ := x _ _ hc
    walk_at "wp"
    refine ⟨by decide, by decide, ?_⟩
    refine for_inv (vs := rngL 0 3 1) (fun j loc H' => loc.lookup "self" = some (.ref sh) ∧ loc.lookup "found" = some (.ref f) ∧ loc.lookup "bay" = some (.int (0 + k)) ∧ Ext H H' ∧ ∃ acc, H'[f]? = some (.list acc) ∧ acc.length ≤ 6 * k + 2 * j ∧ (k = 1 → 2 * j ≤ acc.length)) (fun k loc H' h => rfl) (fun j loc H' v hi hv => ?_) (fun loc H' hi => ?_) ⟨by walk_at "wp", by walk_at "wp", by walk_at "wp", x, acc, ha, by omega, by omega⟩
    · (revert hi; refine ob_AAAAEAAr fun l1 l2 l3 x acc ha b1 b2 => ?_)
      (refine ob_A (rngL_at hv) fun o1_ hj => ?_; subst o1_)
      have hs₂ := x _ _ hs
      have hc₂ := x _ _ hc
      walk_at "wp"
      refine ⟨by decide, by decide, ?_⟩
      refine for_inv (vs := rngL 0 2 1) (fun i loc H' => loc.lookup "self" = some (.ref sh) ∧ loc.lookup "found" = some (.ref f) ∧ loc.lookup "bay" = some (.int (0 + k)) ∧ loc.lookup "row" = some (.int (0 + j)) ∧ Ext H H' ∧ ∃ acc, H'[f]? = some (.list acc) ∧ acc.length ≤ 6 * k + 2 * j + i ∧ (k = 1 → 2 * j + i ≤ acc.length)) (fun k loc H' h => rfl) (fun i loc H' v hi hv => ?_) (fun loc H' hi => ?_) ⟨by walk_at "wp", by walk_at "wp", by walk_at "wp", by walk_at "wp", x, acc, ha, by omega, by omega⟩
      · (revert hi; refine ob_AAAAAEAAr fun l1 l2 l3 l4 x acc ha b1 b2 => ?_)
        (refine ob_A (rngL_at hv) fun o1_ hi => ?_; subst o1_)
        have hs₃ := x _ _ hs
        have hc₃ := x _ _ hc
        refine ob_EA (hin (0 + k) (0 + j) (0 + i) (by omega) (by omega) (by omega) (by omega) (by omega) (by omega)) fun z hz hz1 => ?_
        walk_at "wp"
        refine ⟨by rw [sizeLine_eq]; omega, ?_⟩
        cases z with
        | true =>
          walk_at "wp"
          refine ⟨acc, rfl, by omega, fun e => ?_⟩
          have := hz1 (by omega)
          cases this
        | false =>
          walk_at "wp"
          refine ⟨by rw [sizeLine_eq]; omega, by omega, ?_⟩
          have hn := get_set (o' := .list (acc ++ [.tup [.int (0 + k), .int (0 + j), .int (0 + i)]])) ha
          walk_at "wp"
          refine ⟨ExtBut.old x (ExtBut.set _ _ _) (by omega), _, rfl, by simp; omega, fun e => by have := b2 e; simp; omega⟩
      · (revert hi; refine ob_AAAAAEAAr fun l1 l2 l3 l4 x acc ha b1 b2 => ?_)
        rw [show (rngL 0 2 1).length = 2 from rfl] at b1 b2
        walk_at "wp"
        exact ⟨acc, rfl, by omega, fun e => by have := b2 e; omega⟩
    · (revert hi; refine ob_AAAAEAAr fun l1 l2 l3 x acc ha b1 b2 => ?_)
      rw [show (rngL 0 3 1).length = 3 from rfl] at b1 b2
      walk_at "wp"
      refine ⟨acc, rfl, by omega, ?_⟩
      by_cases e : k = 1
      · have := b2 e; omega
      · omega
  · (revert hi; refine ob_AAAEAAr fun l1 l2 x acc ha b1 b2 => ?_)
    rw [show (rngL 0 2 1).length = 2 from rfl] at b1 b2
    walk_at "wp"
    exact q H' f acc x ha b2 b1
theorem room_ok {sh cl pl ep : Nat} {es : List (Int × RV)} {t : SetTable} (hs : H[sh]? = some (shO cl pl)) (hc : H[cl]? = some (.set es ep t))
    (hin : ∀ b r u : Int, 0 ≤ b → b < 2 → 0 ≤ r → r < 3 → 0 ≤ u → u < 2 → ∃ z, inSet (.tup [.int b, .int r, .int u]) es t = some z ∧ (b = 1 → z = false))
    (q : ∀ H' (r : Int), Ext H H' → 6 ≤ r → r ≤ 12 → Q (.int r) H') : callU L08 (n + 2) L08_Ship_room [.ref sh] H Q := by
  rw [s_call, L08_Ship_room, b1]
  walk_at "wp"
  refine slots_ok hs hc hin fun H' f l x hf h1 h2 => ?_
  walk_at "wp"
  exact ⟨by show l.length < 2 ^ 63; omega, q H' _ x (by omega) (by omega)⟩
end
section
variable {H : RH} {Q : PV} {n : Nat}
structure St (H : RH) (k tk : Nat) (m : Nat) : Prop where
  ok : ∃ sh cl pl ep ep' es es' t t', H[k]? = some (boO sh tk) ∧ H[sh]? = some (shO cl pl) ∧ H[cl]? = some (.set es ep t) ∧ H[pl]? = some (.set es' ep' t') ∧ t'.plain = true ∧ SetTable.rising t'.place = true ∧ es'.length < 100 ∧ tk ≠ k ∧ tk ≠ sh ∧ tk ≠ cl ∧ tk ≠ pl ∧
    (∀ b r u : Int, 0 ≤ b → b < 2 → 0 ≤ r → r < 3 → 0 ≤ u → u < 2 → ∃ z, inSet (.tup [.int b, .int r, .int u]) es t = some z ∧ (b = 1 → z = false)) ∧
    ∃ c : RV → Bool, (∀ v ∈ es'.map (·.2), inSet v es t = some (c v)) ∧ ((es'.map (·.2)).filter (fun v => !c v)).length = m
theorem St.but {H' : RH} {k tk m : Nat} (h : St H k tk m) (x : ExtBut tk H H') : St H' k tk m := by
  obtain ⟨sh, cl, pl, ep, ep', es, es', t, t', h1, h2, h3, h4, h5, h6, h7, n1, n2, n3, n4, r⟩ := h
  exact ⟨sh, cl, pl, ep, ep', es, es', t, t', x _ _ n1.symm h1, x _ _ n2.symm h2, x _ _ n3.symm h3, x _ _ n4.symm h4, h5, h6, h7, n1, n2, n3, n4, r⟩
theorem St.ext {H' : RH} {k tk m : Nat} (h : St H k tk m) (x : Ext H H') : St H' k tk m := h.but (x.but tk)
theorem left_ok {k tk m : Nat} {ts : List Nat} {nm : Nat → Str} (hS : St H k tk m) (ht : H[tk]? = some (.list (refsOf ts))) (hb : Bks H nm ts) (hl : ts.length < 100)
    (q : ∀ H' (r : Int), Ext H H' → 6 ≤ r → Q (.tup [.int (r - ts.length), .int (999 - ts.length), .int (m - ts.length)]) H') : callU L08 (n + 4) L08_Book_left [.ref k, .int 0] H Q := by
  obtain ⟨sh, cl, pl, ep, ep', es, es', t, t', h1, h2, h3, h4, h5, h6, h7, n1, n2, n3, n4, hin, c, hc, hm⟩ := hS
  rw [s_call, L08_Book_left, b2]
  walk_at "wp"
  refine used_ok h1 ht hb hl fun H₁ x₁ => ?_
  have h1' := x₁ _ _ h1
  have h2' := x₁ _ _ h2
  have h3' := x₁ _ _ h3
  walk_at "wp"
  refine room_ok h2' h3' hin fun H₂ r x₂ r1 r2 => ?_
  have x := x₁.trans x₂
  have h1' := x _ _ h1
  have h2' := x _ _ h2
  have h3' := x _ _ h3
  have h4' := x _ _ h4
  walk_at "wp"
  intro l hp
  refine comp_map (goes_kept h4' rfl) (by rw [hp.length_eq, List.length_map]; omega) (fun v => !c v) id (fun v hv H₃ y => ?_) fun i H₃ y hi li => ?_
  · have h1' := y _ _ h1'
    have h2' := y _ _ h2'
    have h3' := y _ _ h3'
    have hv' := hc v (hp.mem_iff.mp hv)
    cases hcv : c v with
    | true =>
      rw [hcv] at hv'
      walk_at "wp"
      exact ⟨Ext.refl _, fun h => by cases h⟩
    | false =>
      rw [hcv] at hv'
      walk_at "wp"
      exact ⟨Ext.refl _, fun z_ => ⟨rfl, Ext.refl _⟩⟩
  rw [List.map_id] at hi
  have hlen : (l.filter fun v => !c v).length = m := by rw [(hp.filter _).length_eq]; exact hm
  have hm' : m < 100 := by
    have := List.length_filter_le (fun v => !c v) l
    rw [hp.length_eq, List.length_map] at this
    omega
  walk_at "wp"
  exact ⟨by show m < 2 ^ 63; omega, by rw [sizeLine_eq]; omega, q _ r (x.trans y) r1⟩
theorem blegs_ok {k tk m : Nat} (hS : St H k tk m) (q : Q (.int 1) H) : callU L08 (n + 1) L08_Book_legs [.ref k] H Q := by
  obtain ⟨sh, cl, pl, ep, ep', es, es', t, t', h1, r⟩ := hS
  rw [s_call, L08_Book_legs, b1]
  walk_at "wp"
  exact ⟨by decide, q⟩
theorem names_ok {x : String} {elt : RE} {tk : Nat} {ts : List Nat} {nm : Nat → Str} {loc : Loc} {QV : PV} (he : elt = .attr (.attr (.loc x) "container") "name") (ht : H[tk]? = some (.list (refsOf ts))) (hb : Bks H nm ts) (hl : ts.length < 100)
    (q : ∀ i H', Ext H H' → H'[i]? = some (.list ((ts.map nm).map RV.str)) → H.length ≤ i → QV (.ref i) H') : CompT L08 (callU L08 n) elt x [] loc (.list tk) H QV := by
  subst he
  refine comp_map (goes_list ht) (by simp; omega) (fun z_ => true) (fun v => match v with | .ref b => .str (nm b) | v => v) (fun v hv H₂ y => ?_) fun i H₂ y hi li => ?_
  · (refine ob_EA (mem_refs hv) fun p hp o1_ => ?_; subst o1_)
    refine ob_EEA (hb.ext y p hp) fun f c hc1 hc2 => ?_
    walk_at "wp"
    exact ⟨Ext.refl _, fun z_ => Ext.refl _⟩
  refine q i H₂ y ?_ li
  have e : (refsOf ts).filter (fun z_ => true) = refsOf ts := by simp
  rw [hi, e, List.map_map, List.map_map]
  rfl
end
section
variable {H : RH} {Q : PV} {n : Nat}
theorem can_take_ok {k tk m b : Nat} {ts : List Nat} {nm : Nat → Str} {f : Int} (hS : St H k tk m) (ht : H[tk]? = some (.list (refsOf ts))) (hb : Bks H nm ts) (hB : Bk H b (nm b) f) (hl : ts.length < 5) (hn : ∀ i, PyData.canLay0 (.str (nm i)) = true)
    (q : ∀ H', Ext H H' → Q (.bool (!((ts.map nm).contains (nm b)) && decide (ts.length < m))) H') : callU L08 (n + 5) L08_Book_can_take [.ref k, .ref b] H Q := by
  have hS' := hS
  obtain ⟨sh, cl, pl, ep, ep', es, es', t, t', h1, h2, h3, h4, h5, h6, h7, n1, n2, n3, n4, _⟩ := hS'
  have hB' := hB
  (revert hB'; refine ob_EAr fun c hc1 hc2 => ?_)
  rw [s_call, L08_Book_can_take, b2]
  walk_at "wp"
  refine blegs_ok hS ?_
  walk_at "wp"
  refine names_ok rfl ht hb (by omega) fun i H₁ x₁ hi li => ?_
  have h1' := x₁ _ _ h1
  have hc1' := x₁ _ _ hc1
  have hc2' := x₁ _ _ hc2
  walk_at "wp"
  rw [in_strs (hn b) (fun y hy => by (refine ob_EA (List.mem_map.mp hy) fun z z_ o1_ => ?_; subst o1_); exact hn z)]
  cases hcon : (ts.map nm).contains (nm b) with
  | true =>
    walk_at "wp"
    have := q H₁ x₁
    rw [hcon] at this
    exact this
  | false =>
    rw [hcon] at q
    walk_at "wp"
    refine legs_ok (hB.ext x₁) ?_
    walk_at "wp"
    refine ⟨by decide, ?_⟩
    refine for_inv (vs := rngL 0 1 1) (fun j loc H' => Ext H H' ∧ (j = 0 → loc.lookup "self" = some (.ref k) ∧ loc.lookup "booking" = some (.ref b)) ∧ (j = 1 → ts.length < m)) (fun k loc H' h => rfl) (fun j loc H' v hi hv => ?_) (fun loc H' hi => ?_) ⟨x₁, fun z_ => ⟨rfl, rfl⟩, fun e => by omega⟩
    · (revert hi; refine ob_AAr fun x hl0 z_ => ?_)
      (refine ob_A (rngL_at hv) fun o1_ hj => ?_; subst o1_)
      have hj0 : j = 0 := by omega
      subst hj0
      refine ob_A (hl0 rfl) fun l1 l2 => ?_
      have h1' := x _ _ h1
      have hc1' := x _ _ hc1
      have hc2' := x _ _ hc2
      walk_at "wp"
      refine left_ok (hS.ext x) (x _ _ ht) (hb.ext x) (by omega) fun H₂ r x₂ r1 => ?_
      have h1' := x₂ _ _ h1'
      have hc1' := x₂ _ _ hc1'
      have hc2' := x₂ _ _ hc2'
      walk_at "wp"
      refine units_ok ((hB.ext x).ext x₂) ?_
      walk_at "wp"
      rw [if_pos (decide_eq_false (by omega)), if_pos (decide_eq_false (by omega))]
      walk_at "wp"
      by_cases hm : (m : Int) - ts.length < 1
      · rw [if_pos (decide_eq_true hm)]
        have := q H₂ (x.trans x₂)
        rw [decide_eq_false (by omega)] at this
        exact this
      · rw [if_neg (by rw [decide_eq_false hm]; exact Bool.false_ne_true), if_neg (by rw [decide_eq_false hm]; exact Bool.false_ne_true)]
        exact ⟨x.trans x₂, fun z_ => trivial, fun z_ => by omega⟩
    · (revert hi; refine ob_AAr fun x z_ hm => ?_)
      have := q H' x
      rw [decide_eq_true (hm rfl)] at this
      exact this
theorem take_ok {k tk m b : Nat} {ts : List Nat} {nm : Nat → Str} {f : Int} (hS : St H k tk m) (ht : H[tk]? = some (.list (refsOf ts))) (hb : Bks H nm ts) (hB : Bk H b (nm b) f) (hl : ts.length < 5) (hn : ∀ i, PyData.canLay0 (.str (nm i)) = true)
    (h : (!((ts.map nm).contains (nm b)) && decide (ts.length < m)) = true) (q : ∀ H', ExtBut tk H H' → H'[tk]? = some (.list (refsOf (ts ++ [b]))) → Q (.ref k) H') : callU L08 (n + 6) L08_Book_take [.ref k, .ref b] H Q := by
  have hS' := hS
  obtain ⟨sh, cl, pl, ep, ep', es, es', t, t', h1, h2, h3, h4, h5, h6, h7, n1, n2, n3, n4, _⟩ := hS'
  have hB' := hB
  (revert hB'; refine ob_EAr fun c hc1 hc2 => ?_)
  rw [s_call, L08_Book_take, b2]
  walk_at "wp"
  refine names_ok rfl ht hb (by omega) fun i H₁ x₁ hi li => ?_
  have h1' := x₁ _ _ h1
  have hc1' := x₁ _ _ hc1
  have hc2' := x₁ _ _ hc2
  walk_at "wp"
  rw [in_strs (hn b) (fun y hy => by (refine ob_EA (List.mem_map.mp hy) fun z z_ o1_ => ?_; subst o1_); exact hn z)]
  have hcon : (ts.map nm).contains (nm b) = false := by
    have := (Bool.and_eq_true_iff.mp h).1
    cases e : (ts.map nm).contains (nm b) with
    | false => rfl
    | true => rw [e] at this; cases this
  rw [hcon]
  walk_at "wp"
  refine can_take_ok (hS.ext x₁) (x₁ _ _ ht) (hb.ext x₁) (hB.ext x₁) hl hn fun H₂ x₂ => ?_
  rw [h]
  have h1' := x₂ _ _ h1'
  have ht' := x₂ _ _ (x₁ _ _ ht)
  walk_at "wp"
  refine ⟨by simp; omega, q _ (((x₁.trans x₂).but tk).trans (ExtBut.set _ _ _)) ?_⟩
  rw [get_set ht']
  simp
end
section
variable {H : RH} {Q : PV} {n : Nat}
def Ext2 (a b : Nat) (H H' : RH) : Prop := ∀ (i : Nat) (o : RO), i ≠ a → i ≠ b → H[i]? = some o → H'[i]? = some o
theorem Ext2.trans {a b : Nat} {H H' H'' : RH} (x : Ext2 a b H H') (y : Ext2 a b H' H'') : Ext2 a b H H'' := fun i o h1 h2 e => y i o h1 h2 (x i o h1 h2 e)
theorem _root_.Mine.Ext.two {H H' : RH} (x : Ext H H') (a b : Nat) : Ext2 a b H H' := fun i o z_ z_ e => x i o e
theorem _root_.Mine.ExtBut.two {a : Nat} {H H' : RH} (x : ExtBut a H H') (b : Nat) : Ext2 a b H H' := fun i o h z_ e => x i o h e
theorem tab_ne {i : Nat} {o : RO} {b : Bool} (h0 : H[0]? = some (.tab b)) (h : H[i]? = some o) (ho : ∀ b, o ≠ .tab b) : i ≠ 0 := fun e => by
  rw [e, h0] at h
  exact ho b (Option.some.inj h).symm
theorem St.but0 {H' : RH} {k tk m : Nat} {b : Bool} (h : St H k tk m) (h0 : H[0]? = some (.tab b)) (x : ExtBut 0 H H') : St H' k tk m := by
  obtain ⟨sh, cl, pl, ep, ep', es, es', t, t', h1, h2, h3, h4, h5, h6, h7, r⟩ := h
  exact ⟨sh, cl, pl, ep, ep', es, es', t, t', x _ _ (tab_ne h0 h1 (fun z_ e => by cases e)) h1, x _ _ (tab_ne h0 h2 (fun z_ e => by cases e)) h2, x _ _ (tab_ne h0 h3 (fun z_ e => by cases e)) h3, x _ _ (tab_ne h0 h4 (fun z_ e => by cases e)) h4, h5, h6, h7, r⟩
theorem St.butL {H' : RH} {k tk m j : Nat} {z : List RV} (h : St H k tk m) (hj : H[j]? = some (.list z)) (x : ExtBut j H H') : St H' k tk m := by
  obtain ⟨sh, cl, pl, ep, ep', es, es', t, t', h1, h2, h3, h4, h5, h6, h7, r⟩ := h
  have ne : ∀ i o, H[i]? = some o → (∀ l, o ≠ .list l) → i ≠ j := fun i o e h q => by rw [q, hj] at e; exact h z (Option.some.inj e).symm
  exact ⟨sh, cl, pl, ep, ep', es, es', t, t', x _ _ (ne _ _ h1 (fun z_ e => by cases e)) h1, x _ _ (ne _ _ h2 (fun z_ e => by cases e)) h2, x _ _ (ne _ _ h3 (fun z_ e => by cases e)) h3, x _ _ (ne _ _ h4 (fun z_ e => by cases e)) h4, h5, h6, h7, r⟩
theorem insS_len (x : Str) : ∀ l, (insS x l).length = l.length + 1
  | [] => rfl
  | y :: r => by
    show (if leS x y = true then x :: y :: r else y :: insS x r).length = _
    split
    · rfl
    · rw [List.length_cons, insS_len x r, List.length_cons]
theorem sortS_len : ∀ l, (sortS l).length = l.length
  | [] => rfl
  | x :: r => by
    show (insS x (sortS r)).length = _
    rw [insS_len, sortS_len r, List.length_cons]
theorem s_strs {i : Nat} {vs : List RV} (h : H[i]? = some (.list vs)) : strsIn H (.ref i) = strsP vs := by
  show ((H[i]?).bind fun o => some (i, o)).bind _ = _
  rw [h]; rfl
theorem Bk.but {H' : RH} {b : Nat} {s : Str} {f : Int} (h : Bk H b s f) {j : Nat} {l : RO} (hj : H[j]? = some l) (hl : (∃ z, l = .list z) ∨ ∃ z, l = .tab z) (x : ExtBut j H H') : Bk H' b s f := by
  (revert h; refine ob_EAr fun c h1 h2 => ?_)
  refine ⟨c, x _ _ (fun e => ?_) h1, x _ _ (fun e => ?_) h2⟩
  · rw [e, hj] at h1
    rcases hl with ⟨z, rfl⟩ | ⟨z, rfl⟩ <;> cases h1
  · rw [e, hj] at h2
    rcases hl with ⟨z, rfl⟩ | ⟨z, rfl⟩ <;> cases h2
def All (H : RH) (nm : Nat → Str) (fe : Nat → Int) (bs : List Nat) : Prop := ∀ b ∈ bs, Bk H b (nm b) (fe b) ∧ 0 ≤ fe b ∧ fe b < 50
theorem All.ext {H' : RH} {nm : Nat → Str} {fe : Nat → Int} {bs : List Nat} (h : All H nm fe bs) (x : Ext H H') : All H' nm fe bs := fun b hb => ⟨(h b hb).1.ext x, (h b hb).2⟩
theorem All.but {H' : RH} {nm : Nat → Str} {fe : Nat → Int} {bs : List Nat} (h : All H nm fe bs) {j : Nat} {l : RO} (hj : H[j]? = some l) (hl : (∃ z, l = .list z) ∨ ∃ z, l = .tab z) (x : ExtBut j H H') : All H' nm fe bs := fun b hb => ⟨(h b hb).1.but hj hl x, (h b hb).2⟩
theorem All.bks {nm : Nat → Str} {fe : Nat → Int} {bs ts : List Nat} (h : All H nm fe bs) (hs : ∀ b ∈ ts, b ∈ bs) : Bks H nm ts := fun b hb => ⟨fe b, (h b (hs b hb)).1⟩
def gr1 (m : Nat) (nm : Nat → Str) (s : List Nat × List Str) (b : Nat) : List Nat × List Str := if (!((s.1.map nm).contains (nm b)) && decide (s.1.length < m)) = true then (s.1 ++ [b], s.2) else (s.1, s.2 ++ [nm b])
def gr (m : Nat) (nm : Nat → Str) (l : List Nat) : List Nat × List Str := l.foldl (gr1 m nm) ([], [])
theorem gr_snoc (m : Nat) (nm : Nat → Str) (l : List Nat) (b : Nat) : gr m nm (l ++ [b]) = gr1 m nm (gr m nm l) b := by unfold gr; rw [List.foldl_append]; rfl
theorem gr_mem (m : Nat) (nm : Nat → Str) (l : List Nat) : ∀ b ∈ (gr m nm l).1, b ∈ l := by
  have aux : ∀ (l : List Nat) (s : List Nat × List Str), ∀ b ∈ (l.foldl (gr1 m nm) s).1, b ∈ s.1 ∨ b ∈ l := by
    intro l
    induction l with
    | nil => intro s b hb; exact .inl hb
    | cons x r ih =>
      intro s b hb
      rcases ih _ b hb with h | h
      · unfold gr1 at h
        split at h
        · rcases List.mem_append.mp h with h | h
          · exact .inl h
          · rw [List.mem_singleton] at h; rw [h]; exact .inr (.head _)
        · exact .inl h
      · exact .inr (.tail _ h)
  intro b hb
  rcases aux l ([], []) b hb with h | h
  · cases h
  · exact h
theorem gr_len (m : Nat) (nm : Nat → Str) (l : List Nat) : (gr m nm l).1.length + (gr m nm l).2.length = l.length := by
  have aux : ∀ (l : List Nat) (s : List Nat × List Str), (l.foldl (gr1 m nm) s).1.length + (l.foldl (gr1 m nm) s).2.length = s.1.length + s.2.length + l.length := by
    intro l
    induction l with
    | nil => intro s; simp
    | cons x r ih =>
      intro s
      rw [List.foldl_cons, ih]
      unfold gr1
      split <;> simp <;> omega
  have := aux l ([], [])
  simpa [gr] using this
end
section
variable {H : RH} {Q : PV} {n : Nat}
theorem nth_ref {bs : List Nat} {i : Nat} (h : i < bs.length) (hl : bs.length < 1000) : nthR (refsOf bs) (.int (i : Int)) = some (.ref (bs.getD i 0)) := by
  show (idxR (i : Int) (refsOf bs).length).bind ((refsOf bs)[·]?) = _
  unfold idxR
  rw [if_pos ⟨by omega, by rw [List.length_map]; omega, by omega⟩, Option.bind_some, Int.toNat_natCast, List.getElem?_map, List.getElem?_eq_getElem h, List.getD_eq_getElem?_getD, List.getElem?_eq_getElem h]
  rfl
abbrev kf (fe : Nat → Int) (bs : List Nat) : RV → RV := fun v => match v with
  | .int i => .tup [.int (-(fe (bs.getD i.toNat 0) * 1000)), .int i]
  | v => v
theorem kf_keys (fe : Nat → Int) (bs : List Nat) : ∃ kk, keysP ((rngL 0 4 1).map (kf fe bs)) = some kk ∧ kk.all (fun k => !k.isEmpty) = true := ⟨[[-(fe (bs.getD 0 0) * 1000), 0], [-(fe (bs.getD 1 0) * 1000), 1], [-(fe (bs.getD 2 0) * 1000), 2], [-(fe (bs.getD 3 0) * 1000), 3]], by kernel_rfl, rfl⟩
theorem sort_ok (kk : List (List Int)) : ∃ is : List Nat, is.Perm [0, 1, 2, 3] ∧ sortP kk (rngL 0 4 1) = some (is.map fun (i : Nat) => RV.int (i : Int)) := by
  refine ob_EA (sort4 fun i j => ltK (kk.getD i []) (kk.getD j [])) fun p hp hq => ?_
  refine ⟨p.toList, hq, ?_⟩
  show (if (rngL 0 4 1).length < 2 then some (rngL 0 4 1) else (kasEv (rngL 0 4 1).length (fun i j => ltK (kk.getD i []) (kk.getD j [])) (kas_sort (rngL 0 4 1).length)).map fun p => p.toList.map fun i => (rngL 0 4 1).getD i .none) = _
  rw [show (rngL 0 4 1).length = 4 from rfl, if_neg (by decide), hp, Option.map_some]
  congr 1
  refine List.map_congr_left fun i hi => ?_
  have : i ∈ [0, 1, 2, 3] := hq.mem_iff.mp hi
  simp only [List.mem_cons, List.not_mem_nil, or_false] at this
  rcases this with rfl | rfl | rfl | rfl <;> rfl
theorem isS : isSortedB L08 = true := by kernel_rfl
theorem accept_ok {k tk m bl : Nat} {bs : List Nat} {nm : Nat → Str} {fe : Nat → Int} (h0 : H[0]? = some (.tab false)) (hS : St H k tk m) (ht : H[tk]? = some (.list [])) (hbl : H[bl]? = some (.list (refsOf bs))) (hne : bl ≠ tk) (h4 : bs.length = 4) (hA : All H nm fe bs) (hn : ∀ i, PyData.canLay0 (.str (nm i)) = true)
    (q : ∀ H' r rl is, List.Perm is [0, 1, 2, 3] → Ext2 tk 0 H H' → H'[tk]? = some (.list (refsOf (gr m nm (is.map fun i => bs.getD i 0)).1)) → H'[r]? = some (.list rl) → rl.length = (gr m nm (is.map fun i => bs.getD i 0)).2.length → Q (.ref r) H') :
    callU L08 (n + 7) L08_accept [.ref k, .ref bl] H Q := by
  rw [s_call, L08_accept, b2]
  walk_at "wp"
  refine ⟨Nat.zero_le _, ?_⟩
  walk_at "wp"
  refine ⟨isS, ?_⟩
  have x₀ := Ext.push H (.list [])
  have hr := get_new H (.list [])
  have h0' := x₀ _ _ h0
  have hbl' := x₀ _ _ hbl
  have hS := hS.ext x₀
  have hA := hA.ext x₀
  have ht' := x₀ _ _ ht
  have hrt : tk < H.length := lt_of_get ht
  have hrb : bl < H.length := lt_of_get hbl
  generalize hrf : H.length = rf at hr hrt hrb ⊢
  generalize hH₁ : H ++ [.list []] = H₁ at x₀ hr h0' hbl' hS hA ht' ⊢
  walk_at "wp"
  rw [show (refsOf bs).length = 4 from by rw [List.length_map]; exact h4]
  refine ⟨by decide, by decide, ?_⟩
  rw [show sortSrc H₁ (.rng 0 ((4 : Nat) : Int) 1) = some (rngL 0 4 1) from by kernel_rfl, s_opt, show tabAt H₁ 0 = some () from by (show ((H₁[0]?).bind asTab).bind _ = _; rw [h0']; rfl), s_opt]
  refine ⟨by decide, ?_⟩
  have x₁ := ExtBut.set H₁ 0 (.tab true)
  have hS := hS.but0 h0' x₁
  have hA := hA.but h0' (.inr ⟨_, rfl⟩) x₁
  have ht' := x₁ _ _ (tab_ne h0' ht' (fun z_ e => by cases e)) ht'
  have hbl' := x₁ _ _ (tab_ne h0' hbl' (fun z_ e => by cases e)) hbl'
  have hr := x₁ _ _ (tab_ne h0' hr (fun z_ e => by cases e)) hr
  have y : Ext2 tk 0 H (H₁.set 0 (.tab true)) := fun i o z_ h2 e => x₁ i o h2 (x₀ i o e)
  generalize H₁.set 0 (.tab true) = H₂ at x₁ hS hA ht' hbl' hr y ⊢
  refine keysT_map (f := kf fe bs) (fun v hv H' x => ?_) fun H₃ x₃ => ?_
  · refine ob_E (List.mem_iff_getElem?.mp hv) fun i hi => ?_
    (refine ob_A (rngL_at hi) fun o1_ hi4 => ?_; subst o1_)
    have hbl' := x _ _ hbl'
    have hb := hA (bs.getD i 0) (by rw [List.getD_eq_getElem?_getD, List.getElem?_eq_getElem (by omega)]; exact List.getElem_mem _)
    have hb1 := hb.1.ext x
    refine ob_EA (hb.1.ext x) fun c hc1 hc2 => ?_
    rw [Int.zero_add]
    have hnth := nth_ref (bs := bs) (i := i) (by omega) (by omega)
    walk_at "wp"
    refine worth_ok hb1 hb.2.1 hb.2.2 ?_
    walk_at "wp"
    exact ⟨by rw [sizeLine_eq]; omega, rfl, Ext.refl _⟩
  · refine ob_EA (kf_keys fe bs) fun kk hk1 hk2 => ?_
    refine ob_EA (sort_ok kk) fun is hp hs => ?_
    rw [hk1, s_opt, hs, s_opt]
    refine ⟨hk2, ?_⟩
    have x₄ := x₃.trans (Ext.push H₃ (.list (is.map fun (i : Nat) => RV.int (i : Int))))
    have ho := get_new H₃ (.list (is.map fun (i : Nat) => RV.int (i : Int)))
    have hor : rf < H₃.length := lt_of_get (x₃ _ _ hr)
    generalize H₃.length = o at ho hor ⊢
    generalize H₃ ++ [.list (is.map fun (i : Nat) => RV.int (i : Int))] = H₄ at x₄ ho ⊢
    have hS := hS.ext x₄
    have hA := hA.ext x₄
    have ht' := x₄ _ _ ht'
    have hbl' := x₄ _ _ hbl'
    have hr := x₄ _ _ hr
    have y : Ext2 tk 0 H H₄ := y.trans (x₄.two _ _)
    walk_at "wp"
    have hlen : is.length = 4 := hp.length_eq
    have hisb : ∀ i ∈ is, i < 4 := fun i hi => by
      have : i ∈ [0, 1, 2, 3] := hp.mem_iff.mp hi
      simp only [List.mem_cons, List.not_mem_nil, or_false] at this
      omega
    have hbs : ∀ i, i < 4 → bs.getD i 0 ∈ bs := fun i hi => by rw [List.getD_eq_getElem?_getD, List.getElem?_eq_getElem (by omega)]; exact List.getElem_mem _
    refine for_inv (vs := is.map fun (i : Nat) => RV.int (i : Int)) (fun j loc H' => loc.lookup "book" = some (.ref k) ∧ loc.lookup "bookings" = some (.ref bl) ∧ loc.lookup "refused" = some (.ref rf) ∧ St H' k tk m ∧ All H' nm fe bs ∧ H'[bl]? = some (.list (refsOf bs)) ∧ H'[o]? = some (.list (is.map fun (i : Nat) => RV.int (i : Int))) ∧
      H'[tk]? = some (.list (refsOf (gr m nm ((is.take j).map fun i => bs.getD i 0)).1)) ∧ H'[rf]? = some (.list ((gr m nm ((is.take j).map fun i => bs.getD i 0)).2.map RV.str)) ∧ Ext2 tk 0 H H') (fun j loc H' h => ?_) (fun j loc H' v hi hv => ?_) (fun loc H' hi => ?_) ⟨rfl, rfl, rfl, hS, hA, hbl', ho, ht', hr, y⟩
    · (revert h; refine ob_AAAAAAAr fun z_ z_ z_ z_ z_ z_ h z_ => ?_)
      show ((H'[o]?).bind asL).bind _ = _
      rw [h]; rfl
    · (revert hi; refine ob_AAAAAAAAAr fun l1 l2 l3 hS hA hbl ho ht hr y => ?_)
      rw [List.getElem?_map] at hv
      cases hij : is[j]? with
      | none => rw [hij] at hv; cases hv
      | some i =>
        rw [hij] at hv
        cases hv
        have hi4 := hisb i (List.mem_of_getElem? hij)
        have hbm := hbs i hi4
        have hnth := nth_ref (bs := bs) (i := i) (by omega) (by omega)
        have htk : (is.take (j + 1)).map (fun i => bs.getD i 0) = (is.take j).map (fun i => bs.getD i 0) ++ [bs.getD i 0] := by
          rw [List.take_add_one, hij, List.map_append]; rfl
        have hgl := gr_len m nm ((is.take j).map fun i => bs.getD i 0)
        rw [List.length_map, List.length_take] at hgl
        have hgm : ∀ b ∈ (gr m nm ((is.take j).map fun i => bs.getD i 0)).1, b ∈ bs := fun b hb => by
          (refine ob_EA (List.mem_map.mp (gr_mem m nm _ b hb)) fun z hz o1_ => ?_; subst o1_)
          exact hbs z (hisb z (List.mem_of_mem_take hz))
        rw [htk, gr_snoc]
        generalize gr m nm ((is.take j).map fun i => bs.getD i 0) = g at ht hr hgl hgm ⊢
        obtain ⟨ta, re⟩ := g
        have hS' := hS
        obtain ⟨sh, cl, pl, ep, ep', es, es', t, t', h1, _⟩ := hS'
        have hB := (hA _ hbm).1
        have hB' := hB
        (revert hB'; refine ob_EAr fun c hc1 hc2 => ?_)
        walk_at "wp"
        refine can_take_ok hS ht (hA.bks hgm) hB (by show ta.length < 5; have : ta.length + re.length = min j is.length := hgl; omega) hn fun H₅ x₅ => ?_
        have hl5 : ta.length < 5 := by have : ta.length + re.length = min j is.length := hgl; omega
        have hbl5 := x₅ _ _ hbl
        have hc15 := x₅ _ _ hc1
        have hc25 := x₅ _ _ hc2
        have h15 := x₅ _ _ h1
        have ht5 : H₅[tk]? = some (.list (refsOf ta)) := x₅ _ _ ht
        have hr5 : H₅[rf]? = some (.list (re.map RV.str)) := x₅ _ _ hr
        have ho5 := x₅ _ _ ho
        cases hcan : (!((ta.map nm).contains (nm (bs.getD i 0))) && decide (ta.length < m)) with
        | true =>
          have hg1 : gr1 m nm (ta, re) (bs.getD i 0) = (ta ++ [bs.getD i 0], re) := if_pos hcan
          rw [hg1]
          walk_at "wp"
          refine take_ok (hS.ext x₅) ht5 ((hA.ext x₅).bks hgm) (hB.ext x₅) hl5 hn hcan fun H₆ x₆ ht6 => ?_
          walk_at "wp"
          exact ⟨(hS.ext x₅).but x₆, (hA.ext x₅).but ht5 (.inl ⟨_, rfl⟩) x₆, x₆ _ _ hne hbl5, x₆ _ _ (by omega) ho5, x₆ _ _ (by omega) hr5, (y.trans (x₅.two _ _)).trans (x₆.two _)⟩
        | false =>
          have hg1 : gr1 m nm (ta, re) (bs.getD i 0) = (ta, re ++ [nm (bs.getD i 0)]) := if_neg (by rw [hcan]; exact Bool.false_ne_true)
          rw [hg1]
          walk_at "wp"
          have x₆ := ExtBut.set H₅ rf (.list (re.map RV.str ++ [.str (nm (bs.getD i 0))]))
          have hre : re.length ≤ 4 := by have : ta.length + re.length = min j is.length := hgl; omega
          refine ⟨by rw [List.length_map]; omega, (hS.ext x₅).butL hr5 x₆, (hA.ext x₅).but hr5 (.inl ⟨_, rfl⟩) x₆, x₆ _ _ (by omega) hbl5, x₆ _ _ (by omega) ho5, x₆ _ _ (by omega) ht5, ?_, ?_⟩
          · rw [get_set hr5, List.map_append]; rfl
          · exact fun z o h1 h2 e => x₆ z o (by have := lt_of_get e; omega) (x₅ z o (y z o h1 h2 e))
    · (revert hi; refine ob_AAAAAAAAAr fun l1 l2 l3 hS hA hbl ho ht hr y => ?_)
      rw [List.length_map, List.take_length] at ht hr
      walk_at "wp"
      have hst : strsP ((gr m nm (is.map fun i => bs.getD i 0)).2.map RV.str) = some (gr m nm (is.map fun i => bs.getD i 0)).2 := by
        have := strsP_map id (gr m nm (is.map fun i => bs.getD i 0)).2
        rw [List.map_id] at this
        exact this
      rw [s_strs hr, hst, s_opt]
      have hgl := gr_len m nm (is.map fun i => bs.getD i 0)
      rw [List.length_map, hlen] at hgl
      refine ⟨by omega, ?_⟩
      have x₆ := Ext.push H' (.list ((sortS (gr m nm (is.map fun i => bs.getD i 0)).2).map RV.str))
      exact q _ _ _ is hp (y.trans (x₆.two _ _)) (x₆ _ _ ht) (get_new _ _) (by rw [List.length_map, sortS_len])
end
section
variable {H : RH} {Q : PV} {n : Nat}
abbrev sl (a b c : Int) : RV := .tup [.int a, .int b, .int c]
theorem has_ok {sh cl pl : Nat} {a b c : Int} (hs : H[sh]? = some (shO cl pl)) (h : 0 ≤ a ∧ a < 2 ∧ 0 ≤ b ∧ b < 3 ∧ 0 ≤ c ∧ c < 2) (q : Q (.bool true) H) : callU L08 (n + 1) L08_Ship_has [.ref sh, sl a b c] H Q := by
  rw [s_call, L08_Ship_has, b2]
  walk_at "wp"
theorem check_ok {sh cl pl : Nat} {a b c : Int} (hs : H[sh]? = some (shO cl pl)) (h : 0 ≤ a ∧ a < 2 ∧ 0 ≤ b ∧ b < 3 ∧ 0 ≤ c ∧ c < 2) (q : Q .none H) : callU L08 (n + 2) L08_Ship_check [.ref sh, sl a b c] H Q := by
  rw [s_call, L08_Ship_check, b2]
  walk_at "wp"
  refine has_ok hs h ?_
  walk_at "wp"
theorem addAll_snoc (s : SetP) (x : RV) : ∀ l, addAll s (l ++ [x]) = (addAll s l).bind fun s' => addS s' x
  | [] => by
    show (addS s x).bind (fun s' => addAll s' []) = addS s x
    cases addS s x <;> rfl
  | y :: r => by
    show (addS s y).bind (fun s' => addAll s' (r ++ [x])) = ((addS s y).bind fun s' => addAll s' r).bind fun s' => addS s' x
    cases addS s y with
    | none => rfl
    | some s' => exact addAll_snoc s' x r
theorem addAll_take {s : SetP} {L : List RV} (h : (addAll s L).isSome = true) : ∀ j, (addAll s (L.take j)).isSome = true := by
  have aux : ∀ (L r : List RV) (s : SetP), (addAll s (L ++ r)).isSome = true → (addAll s L).isSome = true := by
    intro L
    induction L with
    | nil => intro r s _; rfl
    | cons x L ih =>
      intro r s h
      have h : ((addS s x).bind fun s' => addAll s' (L ++ r)).isSome = true := h
      show ((addS s x).bind fun s' => addAll s' L).isSome = true
      cases e : addS s x with
      | none => rw [e] at h; cases h
      | some s' => rw [e] at h; exact ih r s' h
  intro j
  refine aux (L.take j) (L.drop j) s ?_
  rw [List.take_append_drop]; exact h
abbrev fr0 : SetP := ([], 0, SetTable.fresh 0 0 true)
theorem fill_ok {nmA : String} {sh cl pl tg lL : Nat} {L : List RV} {s : SetP} {loc : Loc} {QF : PF} (hnm : (nmA = "closed" ∧ tg = cl) ∨ (nmA = "plugs" ∧ tg = pl)) (hs : H[sh]? = some (shO cl pl)) (ht : H[tg]? = some (setOf fr0)) (hL : H[lL]? = some (.list L)) (hl0 : loc.lookup "self" = some (.ref sh))
    (hall : addAll fr0 L = some s) (hb : ∀ v ∈ L, ∃ a b c : Int, v = sl a b c ∧ 0 ≤ a ∧ a < 2 ∧ 0 ≤ b ∧ b < 3 ∧ 0 ≤ c ∧ c < 2)
    (q : ∀ loc' H', (∀ x, x ≠ "slot" → loc'.lookup x = loc.lookup x) → ExtBut tg H H' → H'[tg]? = some (setOf s) → QF .next loc' H') :
    ForT L08 (callU L08 (n + 2)) (.name "slot") [.expr (.meth (.loc "self") "check" [(.loc "slot")]), .expr (.meth (.attr (.loc "self") nmA) "add" [(.loc "slot")])] (.list lL) loc H QF := by
  have hne1 : sh ≠ tg := fun e => by rw [e, ht] at hs; cases hs
  have hne2 : lL ≠ tg := fun e => by rw [e, ht] at hL; cases hL
  refine for_inv (vs := L) (fun j loc' H' => (∀ x, x ≠ "slot" → loc'.lookup x = loc.lookup x) ∧ ExtBut tg H H' ∧ ∃ s', addAll fr0 (L.take j) = some s' ∧ H'[tg]? = some (setOf s')) (fun j loc' H' hi => ?_) (fun j loc' H' v hi hv => ?_) (fun loc' H' hi => ?_) ⟨fun z_ z_ => rfl, fun z_ z_ z_ e => e, fr0, rfl, ht⟩
  · show ((H'[lL]?).bind asL).bind _ = _
    rw [hi.2.1 _ _ hne2 hL]; rfl
  · (revert hi; refine ob_AAEAr fun hl x s' h1 h2 => ?_)
    (refine ob_EEEA (hb v (List.mem_of_getElem? hv)) fun a b c o1_ hr => ?_; subst o1_)
    have hs' := x _ _ hne1 hs
    have hself := (hl "self" (by decide)).trans hl0
    have hsome := addAll_take (s := fr0) (L := L) (by rw [hall]; rfl) (j + 1)
    rw [List.take_add_one, hv, Option.toList_some, addAll_snoc, h1, Option.bind_some] at hsome
    refine ob_E (Option.isSome_iff_exists.mp hsome) fun s₂ hs₂ => ?_
    walk_at "wp"
    refine check_ok hs' hr ?_
    have fin : optwp (methO L08 "add" (setOf s')) (fun k => doMwp (callU L08 (n + 2)) k (RV.ref tg) [sl a b c] H' fun z_ H₁ =>
        (∀ (x : String), x ≠ "slot" → (if x = "slot" then some (sl a b c) else List.lookup x loc') = List.lookup x loc) ∧ ExtBut tg H H₁ ∧ ∃ s', addAll fr0 (List.take (j + 1) L) = some s' ∧ H₁[tg]? = some (setOf s')) := by
      rw [show methO L08 "add" (setOf s') = some (.blt "set.add") from rfl, s_opt, s_blt]
      show optwp (setAt H' (.ref tg)) _
      rw [s_sta, h2, Option.bind_some, show setO' tg (setOf s') = some (tg, s') from rfl, s_opt, hs₂, s_opt]
      refine ⟨fun x hx => by rw [if_neg hx]; exact hl x hx, x.trans (ExtBut.set _ _ _), s₂, ?_, get_set h2⟩
      rw [List.take_add_one, hv, Option.toList_some, addAll_snoc, h1]; exact hs₂
    rcases hnm with ⟨rfl, rfl⟩ | ⟨rfl, rfl⟩
    · walk_at "wp"
    · walk_at "wp"
  · (revert hi; refine ob_AAEAr fun hl x s' h1 h2 => ?_)
    rw [List.take_length, hall] at h1
    cases h1
    exact q _ _ hl x h2
theorem setf {G : RProg} {i : Nat} {c x : String} {fs : List (String × RV)} {v : RV} {k : RH → Prop} (hi : H[i]? = some (.inst c fs)) (ha : attrOk G c x = true) (hl : fs.length < 900) (q : ∀ H', ExtBut i H H' → H'[i]? = some (.inst c (setL x v fs)) → k H') : optwp ((H[i]?).bind (sflO G H i x v)) k := by
  rw [hi, Option.bind_some, s_sflO, ha, decide_eq_true hl, Bool.and_self, if_pos rfl, s_opt]
  exact q _ (ExtBut.set _ _ _) (get_set hi)
section
variable {G : RProg} {U : UTy} {loc : Loc} {QF : PF} {rest : List RT}
theorem st_skip {t : RE} (h : ∀ QB : PB, QB false H → wpT G U t (fun l H' Q' => wpE G U t l H' Q') loc H QB) (q : wpSs G U rest loc H QF) : wpSs G U (.ite t [.raise_] [] :: rest) loc H QF := h _ q
theorem st_set {e : RE} {x : String} {i : Nat} {c : String} {fs : List (String × RV)} {v : RV} (he : ∀ Q : PV, Q v H → wpE G U e loc H Q) (h1 : loc.lookup "self" = some (.ref i)) (hi : H[i]? = some (.inst c fs)) (ha : attrOk G c x = true) (hl : fs.length < 900) (q : ∀ H', ExtBut i H H' → H'[i]? = some (.inst c (setL x v fs)) → wpSs G U rest loc H' QF) :
    wpSs G U (.asgAttr (.loc "self") x e :: rest) loc H QF := by
  refine he _ ?_
  show optwp (loc.lookup "self") fun ov => optwp (setField G H ov x v) fun H₃ => wpSs G U rest loc H₃ QF
  rw [h1, s_opt, s_sfl]
  exact setf hi ha hl q
end
theorem b8 (a b c d e f g h : RV) : bindR ["self", "pairs", "rows", "tiers", "stack_weight", "stack_height", "plugs", "closed"] [.tup [], .tup []] [a, b, c, d, e, f, g, h] = some [("self", a), ("pairs", b), ("rows", c), ("tiers", d), ("stack_weight", e), ("stack_height", f), ("plugs", g), ("closed", h)] := rfl
theorem ship_ok {i pL cL : Nat} {P L : List RV} {sp sc : SetP} (hi : H[i]? = some (.inst "Ship" [])) (hP : H[pL]? = some (.list P)) (hL : H[cL]? = some (.list L)) (h1 : addAll fr0 P = some sp) (h2 : addAll fr0 L = some sc)
    (hbP : ∀ v ∈ P, ∃ a b c : Int, v = sl a b c ∧ 0 ≤ a ∧ a < 2 ∧ 0 ≤ b ∧ b < 3 ∧ 0 ≤ c ∧ c < 2) (hbL : ∀ v ∈ L, ∃ a b c : Int, v = sl a b c ∧ 0 ≤ a ∧ a < 2 ∧ 0 ≤ b ∧ b < 3 ∧ 0 ≤ c ∧ c < 2)
    (hpl : sc.2.2.plain = true ∧ SetTable.rising sc.2.2.place = true) (hz : ∀ v ∈ sc.1.map (·.2), ∃ b : Int, v = sl 0 b 0)
    (q : ∀ H' cl pl, ExtBut i H H' → H'[i]? = some (shO cl pl) → H'[cl]? = some (setOf sc) → H'[pl]? = some (setOf sp) → Q .none H') :
    callU L08 (n + 3) L08_Ship___init__ [.ref i, .int 1, .int 3, .int 2, .int 99, .int 99, .ref pL, .ref cL] H Q := by
  rw [s_call, L08_Ship___init__, b8]
  have hiL : cL ≠ i := fun e => by rw [e, hi] at hL; cases hL
  have hiP : pL ≠ i := fun e => by rw [e, hi] at hP; cases hP
  rw [s_opt]
  refine st_skip (fun QB q => q) ?_
  refine st_set (fun Q q => ⟨by decide, by decide, q⟩) rfl hi (by kernel_rfl) (by decide) fun H₁ x₁ hi => ?_
  refine st_set (fun Q q => q) rfl hi (by kernel_rfl) (by decide) fun H₂ x₂ hi => ?_
  refine st_set (fun Q q => q) rfl hi (by kernel_rfl) (by decide) fun H₃ x₃ hi => ?_
  refine st_set (fun Q q => q) rfl hi (by kernel_rfl) (by decide) fun H₄ x₄ hi => ?_
  refine st_set (fun Q q => q) rfl hi (by kernel_rfl) (by decide) fun H₅ x₅ hi => ?_
  have y := (((x₁.trans x₂).trans x₃).trans x₄).trans x₅
  simp only [s_ss, t_asgA, e_call, e_glb, L08f_g_set, s_opt, L08f_ct, true_and, c_es0, c_es1, s_set0, e_loc, List.lookup_cons, String.reduceBEq, s_sfl]
  have y₆ := Ext.push H₅ (.set [] 0 (SetTable.fresh 0 0 true))
  have hc := get_new H₅ (.set [] 0 (SetTable.fresh 0 0 true))
  have hic : H₅.length ≠ i := by have := lt_of_get hi; omega
  have hcl0 : ∀ z o, z ≠ i → H[z]? = some o → z ≠ H₅.length := fun z o h e => Nat.ne_of_lt (lt_of_get (y z o h e))
  generalize H₅.length = cl at hc hic hcl0 ⊢
  generalize H₅ ++ [.set [] 0 (SetTable.fresh 0 0 true)] = H₆ at y₆ hc ⊢
  refine setf (y₆ _ _ hi) (by kernel_rfl) (by decide) fun H₇ x₇ hi => ?_
  have hc := x₇ _ _ hic hc
  have y := (y.trans (y₆.but i)).trans x₇
  have y₈ := Ext.push H₇ (.set [] 0 (SetTable.fresh 0 0 true))
  have hp := get_new H₇ (.set [] 0 (SetTable.fresh 0 0 true))
  have hip : H₇.length ≠ i := by have := lt_of_get hi; omega
  have hcp : cl ≠ H₇.length := by have := lt_of_get hc; omega
  have hpl0 : ∀ z o, z ≠ i → H[z]? = some o → z ≠ H₇.length := fun z o h e => Nat.ne_of_lt (lt_of_get (y z o h e))
  generalize H₇.length = pl at hp hip hcp hpl0 ⊢
  generalize H₇ ++ [.set [] 0 (SetTable.fresh 0 0 true)] = H₈ at y₈ hp ⊢
  refine setf (y₈ _ _ hi) (by kernel_rfl) (by simp [setL]) fun H₉ x₉ hi => ?_
  have hc := x₉ _ _ hic (y₈ _ _ hc)
  have hp := x₉ _ _ hip hp
  have y := (y.trans (y₈.but i)).trans x₉
  have hL := y _ _ hiL hL
  have hP := y _ _ hiP hP
  have hi : H₉[i]? = some (shO cl pl) := hi
  walk_at "wp"
  refine fill_ok (nmA := "closed") (.inl ⟨rfl, rfl⟩) hi hc hL rfl h2 hbL fun loc' H' hl x hcl => ?_
  have hpc : pl ≠ cl := hcp.symm
  have hi' := x _ _ (Ne.symm hic) hi
  have hp' := x _ _ hpc hp
  have hP' := x _ _ (fun e => by rw [e, hc] at hP; cases hP) hP
  have hlp := hl "plugs" (by decide)
  have hls := hl "self" (by decide)
  walk_at "wp"
  refine fill_ok (nmA := "plugs") (.inr ⟨rfl, rfl⟩) hi' hp' hP' (by rw [hls]; rfl) h1 hbP fun loc'' H'' hl' x' hpl' => ?_
  have hi'' := x' _ _ (Ne.symm hip) hi'
  have hcl' := x' _ _ hcp hcl
  have hlp := hl' "plugs" (by decide)
  have hls' := (hl' "self" (by decide)).trans hls
  walk_at "wp"
  refine ⟨hpl, fun l hperm => ?_⟩
  refine for_inv (vs := l) (fun j loc H' => H' = H'' ∧ loc.lookup "self" = some (.ref i)) (fun j loc' H' h => ?_) (fun j loc' H' v h hv => ?_) (fun loc' H' h => ?_) ⟨rfl, hls'⟩
  · (revert h; refine ob_Ar fun o1_ z_ => ?_; subst o1_)
    show (if (H'[cl]?).bind epOf = some sc.2.1 then some l[j]? else none) = _
    rw [hcl', Option.bind_some]
    exact if_pos rfl
  · (revert h; refine ob_Ar fun o1_ hself => ?_; subst o1_)
    (refine ob_E (hz v (hperm.mem_iff.mp (List.mem_of_getElem? hv))) fun b o1_ => ?_; subst o1_)
    walk_at "wp"
  · (revert h; refine ob_Ar fun o1_ z_ => ?_; subst o1_)
    exact q H' cl pl (fun z o hzi e => x' z o (hpl0 z o hzi e) (x z o (hcl0 z o hzi e) (y z o hzi e))) hi'' hcl' hpl'
end
section
variable {H : RH} {Q : PV} {n : Nat}
theorem pdh_strs (H : RH) : ∀ l : List Str, toPDHs H (l.map RV.str) = some (l.map PyData.str)
  | [] => rfl
  | x :: r => by
    show (match some (PyData.str x) with | some d => (match toPDHs H (r.map RV.str) with | some ds => some (d :: ds) | none => none) | none => none) = _
    rw [pdh_strs H r]; rfl
theorem pdhh_strs {i : Nat} {l : List Str} (h : H[i]? = some (.list (l.map RV.str))) : toPDHH H (.ref i) = some (.list (l.map PyData.str)) := by
  show (match lstAt H (.ref i) with | some l => (toPDHs H l.2).map PyData.list | none => toPD (.ref i)) = _
  rw [s_lst, h, Option.bind_some, s_lstO]
  show (toPDHs H (l.map RV.str)).map PyData.list = _
  rw [pdh_strs]; rfl
theorem eq_strs {i j : Nat} {l : List Str} (h1 : H[i]? = some (.list (l.map RV.str))) (h2 : H[j]? = some (.list (l.map RV.str))) (hs : ∀ x ∈ l, PyData.canLay0 (.str x) = true) : cmpP H .Eq (.ref i) (.ref j) = some true := by
  show (match eqD H (.ref i) (.ref j) with | some c => some c | none => eqO H (.ref i) (.ref j)) = _
  have e : eqD H (.ref i) (.ref j) = some true := by
    show (toPDHH H (.ref i)).bind (fun x => (toPDHH H (.ref j)).bind fun y => eqPD x y) = _
    rw [pdhh_strs h1, pdhh_strs h2, Option.bind_some, Option.bind_some]
    unfold eqPD
    rw [strs_shaped l hs, Bool.and_self, if_pos rfl]
    congr 1
    refine PySem.SeqAt.eqv_refl _ ?_
    simp only [PyData.canLay0, strs_lay l hs]
  rw [e]
structure Word (s : Str) : Prop where
  w : Txt.words s = [s]
  l : s.length < 4000
  c : Txt.contains s (Str.ofString "#") = false
  y : PyData.canLay0 (.str s) = true
theorem word_ok {s : Str} (h : Word s) (q : ∀ H', Ext H H' → Q (.bool true) H') : callU L08 (n + 1) L08_is_word [.str s] H Q := by
  rw [s_call, L08_is_word, b1]
  walk_at "wp"
  refine ⟨h.l, ?_⟩
  unfold mkLwp
  rw [h.w]
  have x₁ := Ext.push H (.list ([s].map RV.str))
  have h1 := get_new H (.list ([s].map RV.str))
  generalize H.length = i at h1 ⊢
  generalize H ++ [.list ([s].map RV.str)] = H₁ at x₁ h1 ⊢
  refine ⟨by rw [sizeLine_eq]; simp, ?_⟩
  have x₂ := Ext.push H₁ (.list [.str s])
  have h2 := get_new H₁ (.list [.str s])
  generalize H₁.length = j at h2 ⊢
  generalize H₁ ++ [.list [.str s]] = H₂ at x₂ h2 ⊢
  rw [eq_strs (l := [s]) (x₂ _ _ h1) h2 (fun x hx => by rw [List.mem_singleton] at hx; rw [hx]; exact h.y)]
  walk_at "wp"
  rw [show inP H₂ (.str (Str.ofString "#")) (.str s) = some (Txt.contains s (Str.ofString "#")) from rfl, h.c]
  walk_at "wp"
  exact q _ (x₁.trans x₂)
theorem L08f_HEIGHTS : globR L08 "HEIGHTS" = some (.fdict [(Str.ofString "plain", .int 26), (Str.ofString "high", .int 29)]) := by kernel_rfl
theorem b9 (a b c d e f g h : RV) : bindR ["self", "name", "load", "discharge", "length", "weight", "kind", "cooled", "hazard"] [.int 20, .int 10, .str (Str.ofString "plain"), .bool false, .int 0] [a, b, c, d, e, f, g, h] = some [("self", a), ("name", b), ("load", c), ("discharge", d), ("length", e), ("weight", f), ("kind", g), ("cooled", h), ("hazard", .int 0)] := rfl
theorem in_len (H : RH) : inP H (.int 20) (.tup [.int 20, .int 40]) = some true := by kernel_rfl
theorem in_kind (H : RH) : inP H (.str (Str.ofString "plain")) (.fdict [(Str.ofString "plain", .int 26), (Str.ofString "high", .int 29)]) = some true := by kernel_rfl
theorem cont_ok {i : Nat} {s : Str} (hi : H[i]? = some (.inst "Container" [])) (hw : Word s) (q : ∀ H', ExtBut i H H' → H'[i]? = some (cnO s) → Q .none H') :
    callU L08 (n + 2) L08_Container___init__ [.ref i, .str s, .int 0, .int 1, .int 20, .int 1, .str (Str.ofString "plain"), .bool true] H Q := by
  rw [s_call, L08_Container___init__, b9]
  walk_at "wp"
  refine word_ok hw fun H₁ x₁ => ?_
  have hi := x₁ _ _ hi
  walk_at "wp"
  simp only [L08f_SHORT, L08f_LONG]
  walk_at "wp"
  refine ⟨by rw [sizeLine_eq]; omega, ?_⟩
  rw [in_len]
  walk_at "wp"
  simp only [L08f_HEIGHTS]
  walk_at "wp"
  rw [in_kind]
  walk_at "w1"
  refine st_skip (fun QB q => q) ?_
  refine st_skip (fun QB q => q) ?_
  refine st_skip (fun QB q => q) ?_
  refine st_set (fun Q q => q) rfl hi (by kernel_rfl) (by decide) fun H₂ x₂ h => ?_
  have y := (x₁.but i).trans x₂
  refine st_set (fun Q q => q) rfl h (by kernel_rfl) (by simp [setL]) fun H₃ x₃ h => ?_
  refine st_set (fun Q q => q) rfl h (by kernel_rfl) (by simp [setL]) fun H₄ x₄ h => ?_
  refine st_set (fun Q q => q) rfl h (by kernel_rfl) (by simp [setL]) fun H₅ x₅ h => ?_
  refine st_set (fun Q q => q) rfl h (by kernel_rfl) (by simp [setL]) fun H₆ x₆ h => ?_
  refine st_set (fun Q q => q) rfl h (by kernel_rfl) (by simp [setL]) fun H₇ x₇ h => ?_
  refine st_set (fun Q q => q) rfl h (by kernel_rfl) (by simp [setL]) fun H₈ x₈ h => ?_
  refine st_set (fun Q q => q) rfl h (by kernel_rfl) (by simp [setL]) fun H₉ x₉ h => ?_
  exact q _ (((((((y.trans x₃).trans x₄).trans x₅).trans x₆).trans x₇).trans x₈).trans x₉) h
theorem b3 (x y z : String) (v u w : RV) : bindR [x, y, z] [] [v, u, w] = some [(x, v), (y, u), (z, w)] := rfl
theorem b4 (x y z t : String) (v u w o : RV) : bindR [x, y, z, t] [] [v, u, w, o] = some [(x, v), (y, u), (z, w), (t, o)] := rfl
theorem booking_ok {i c : Nat} {f : Int} (hi : H[i]? = some (.inst "Booking" [])) (hf : 0 ≤ f) (q : ∀ H', ExtBut i H H' → H'[i]? = some (bkO c f) → Q .none H') : callU L08 (n + 1) L08_Booking___init__ [.ref i, .ref c, .int f] H Q := by
  rw [s_call, L08_Booking___init__, b3]
  simp only [s_opt, s_ss, t_ite, c_cmp, e_cmp, c_ct1, e_loc, e_const, List.lookup_cons, String.reduceBEq, s_lt, s_ss0, t_asgA, s_sfl]
  rw [decide_eq_false (by omega), if_neg Bool.false_ne_true]
  refine setf hi (by kernel_rfl) (by decide) fun H₁ x₁ hi => ?_
  refine setf hi (by kernel_rfl) (by simp [setL]) fun H₂ x₂ hi => ?_
  exact q _ (x₁.trans x₂) hi
theorem book_ok {i sh lp : Nat} (hi : H[i]? = some (.inst "Book" [])) (hl : H[lp]? = some (.list [.str (Str.ofString "p"), .str (Str.ofString "q")])) (q : ∀ H' tk, ExtBut i H H' → (∀ z o, z ≠ i → H[z]? = some o → z ≠ tk) → tk ≠ i → H'[i]? = some (boO sh tk) → H'[tk]? = some (.list []) → Q .none H') :
    callU L08 (n + 1) L08_Book___init__ [.ref i, .ref sh, .ref lp, .int 999] H Q := by
  have hne : lp ≠ i := fun e => by rw [e, hi] at hl; cases hl
  rw [s_call, L08_Book___init__, b4]
  simp only [s_opt, s_ss, e_loc, e_const, List.lookup_cons, String.reduceBEq, s_ss0, t_asgA, s_sfl]
  refine setf hi (by kernel_rfl) (by decide) fun H₁ x₁ hi => ?_
  have hl := x₁ _ _ hne hl
  simp only [e_call, e_glb, L08f_g_tuple, s_opt, L08f_ct, true_and, c_es0, c_es1, e_loc, List.lookup_cons, String.reduceBEq, s_tup, asT, s_lst, hl, Option.bind_some, s_lstO, s_sfl]
  refine ⟨by simp, ?_⟩
  refine setf hi (by kernel_rfl) (by simp [setL]) fun H₂ x₂ hi => ?_
  refine setf hi (by kernel_rfl) (by simp [setL]) fun H₃ x₃ hi => ?_
  have y := (x₁.trans x₂).trans x₃
  simp only [e_list, c_es0, c_es1, s_opt, e_loc, List.lookup_cons, String.reduceBEq, s_sfl]
  refine ⟨Nat.zero_le _, ?_⟩
  have x₄ := Ext.push H₃ (.list [])
  have ht := get_new H₃ (.list [])
  have hti : H₃.length ≠ i := by have := lt_of_get hi; omega
  have h0 : ∀ z o, z ≠ i → H[z]? = some o → z ≠ H₃.length := fun z o h e => Nat.ne_of_lt (lt_of_get (y z o h e))
  generalize H₃.length = tk at ht hti h0 ⊢
  generalize H₃ ++ [.list []] = H₄ at x₄ ht ⊢
  refine setf (x₄ _ _ hi) (by kernel_rfl) (by simp [setL]) fun H₅ x₅ hi => ?_
  exact q _ tk ((y.trans (x₄.but i)).trans x₅) h0 hti hi (x₅ _ _ hti ht)
end
section
variable {H : RH} {Q : PV} {n : Nat}
theorem comp_rule {G : RProg} {ifs : List RE} {elt : RE} {x : String} {loc : Loc} {sc : Src} {vs : List RV} (g : Goes sc H vs) (Inv : Nat → List RV → RH → Prop) (hx : ∀ k acc H', Inv k acc H' → Ext H H')
    (step : ∀ k acc H' v, Inv k acc H' → vs[k]? = some v → wpIfs G (callU G n) ifs (setL x v loc) H' fun ok H'' => if ok then wpE G (callU G n) elt (setL x v loc) H'' fun r H₃ => (acc ++ [r]).length < 4000 ∧ Inv (k + 1) (acc ++ [r]) H₃ else acc.length < 4000 ∧ Inv (k + 1) acc H'')
    (end_ : ∀ acc H', Inv vs.length acc H' → Q (.ref H'.length) (H' ++ [.list acc])) (h0 : Inv 0 [] H) : CompT G (callU G n) elt x ifs loc sc H Q := by
  refine ⟨vs.length + 1, turns_rule (fun v acc H' k K h s' => ?_) g Inv hx (fun k acc H' v hi hv => ?_) end_ vs.length 0 [] H (Nat.zero_add _) h0⟩
  · exact Mo.sIfs (Mo.sU G n) ifs _ _ _ _ h fun ok H₄ h => Mo.ite_s h (fun h => (Mo.sX (Mo.sU G n) elt).1 _ _ _ _ h fun r H₅ h => s' _ _ h) fun h => s' _ _ h
  · exact step k acc H' v hi hv
noncomputable def nameOf (z : Int) : Str := Txt.item (Str.ofString "abcd") (Int.fmod z 4)
theorem four_of (z : Int) : Int.fmod z 4 = 0 ∨ Int.fmod z 4 = 1 ∨ Int.fmod z 4 = 2 ∨ Int.fmod z 4 = 3 := by
  have h1 := Int.fmod_nonneg_of_pos z (b := 4) (by decide)
  have h2 := Int.fmod_lt_of_pos z (b := 4) (by decide)
  omega
theorem word_of (z : Int) : Word (nameOf z) := by
  unfold nameOf
  rcases four_of z with h | h | h | h <;> rw [h]
  · exact ⟨by kernel_rfl, by decide +kernel, by kernel_rfl, by kernel_rfl⟩
  · exact ⟨by kernel_rfl, by decide +kernel, by kernel_rfl, by kernel_rfl⟩
  · exact ⟨by kernel_rfl, by decide +kernel, by kernel_rfl, by kernel_rfl⟩
  · exact ⟨by kernel_rfl, by decide +kernel, by kernel_rfl, by kernel_rfl⟩
theorem sub_abcd (H : RH) (z : Int) : subR H (.str (Str.ofString "abcd")) (.int (Int.fmod z 4)) = some (.str (nameOf z)) := by
  unfold nameOf
  rcases four_of z with h | h | h | h <;> rw [h] <;> kernel_rfl
theorem law_cell {zs : List Int} {k : Int} (hz : zs.length ≤ 63) (h0 : 0 ≤ k) (hk : k < 1000) (q : Q (.int (zs.getD k.toNat 0)) H) : callU L08 (n + 1) L08__law_cell [.arg (zs.map .int), .int k] H Q := cell_ok (by kernel_rfl) h0 hk (by omega) q
theorem rows_ok {zs : List Int} {loc : Loc} (hz : zs.length ≤ 63) (hs : loc.lookup "script" = some (.arg (zs.map .int)))
    (q : ∀ H' bs i, Ext H H' → bs.length = 4 → List.Pairwise (· < ·) bs → (∀ b ∈ bs, H.length ≤ b ∧ b < i) → H.length ≤ i → (∀ j b, bs[j]? = some b → Bk H' b (nameOf (zs.getD (3 + j) 0)) (Int.fmod (zs.getD (7 + j) 0) 50)) → H'[i]? = some (.list (refsOf bs)) → Q (.ref i) H') :
    CompT L08 (callU L08 (n + 2)) (.call (.glb "Booking") [(.call (.glb "Container") [(.sub (.const (.str (PySem.Str.ofString "abcd"))) (.bin .Mod (.call (.glb "_law_cell") [(.loc "script"), (.bin .Add (.const (.int 3)) (.loc "k"))]) (.const (.int 4)))), (.const (.int 0)), (.const (.int 1)), (.const (.int 20)), (.const (.int 1)), (.const (.str (PySem.Str.ofString "plain"))), (.const (.bool true))]), (.bin .Mod (.call (.glb "_law_cell") [(.loc "script"), (.bin .Add (.const (.int 7)) (.loc "k"))]) (.const (.int 50)))]) "k" [] loc (.items (rngL 0 4 1)) H Q := by
  refine comp_rule (goes_items _ _) (fun k acc H' => Ext H H' ∧ ∃ bs : List Nat, bs.length = k ∧ acc = refsOf bs ∧ bs.Pairwise (· < ·) ∧ (∀ b ∈ bs, H.length ≤ b ∧ b < H'.length) ∧ ∀ j b, bs[j]? = some b → Bk H' b (nameOf (zs.getD (3 + j) 0)) (Int.fmod (zs.getD (7 + j) 0) 50)) (fun k acc H' h => h.1) (fun k acc H' v hi hv => ?_) (fun acc H' hi => ?_) ⟨Ext.refl _, [], rfl, rfl, .nil, fun b h => (by cases h), fun j b h => (by simp at h)⟩
  · (revert hi; refine ob_AEAAAAr fun x bs hl o1_ hp hlt hB => ?_; subst o1_)
    (refine ob_A (rngL_at hv) fun o1_ hk => ?_; subst o1_)
    rw [Int.zero_add]
    walk_at "wp"
    refine law_cell hz (by omega) (by omega) ?_
    walk_at "wp"
    refine ⟨by decide, ?_⟩
    rw [sub_abcd, s_opt]
    walk_at "wp"
    rw [show (3 + (k : Int)).toNat = 3 + k from by omega]
    have y₁ := Ext.push H' (.inst "Container" [])
    have hc0 := get_new H' (.inst "Container" [])
    have hold : ∀ z o, H'[z]? = some o → z < H'.length := fun z o e => lt_of_get e
    have hH : H.length ≤ H'.length := x.len
    generalize H'.length = c at hc0 hold hlt hH ⊢
    generalize H' ++ [.inst "Container" []] = H₀ at y₁ hc0 ⊢
    refine cont_ok hc0 (word_of _) fun H₁ x₁ hc1 => ⟨rfl, ?_⟩
    refine law_cell hz (by omega) (by omega) ?_
    walk_at "wp"
    refine ⟨by decide, ?_⟩
    rw [show (7 + (k : Int)).toNat = 7 + k from by omega]
    have y₂ := Ext.push H₁ (.inst "Booking" [])
    have hb0 := get_new H₁ (.inst "Booking" [])
    have hcb : c < H₁.length := lt_of_get hc1
    have hold1 : ∀ z o, H₁[z]? = some o → z < H₁.length := fun z o e => lt_of_get e
    generalize H₁.length = b at hb0 hcb hold1 ⊢
    generalize H₁ ++ [.inst "Booking" []] = H₃ at y₂ hb0 ⊢
    refine booking_ok hb0 (Int.fmod_nonneg_of_pos _ (by decide)) fun H₂ x₂ hb => ?_
    have z₁ : Ext H' H₁ := fun z o e => x₁ z o (by have := hold z o e; omega) (y₁ z o e)
    have z₂ : Ext H₁ H₂ := fun z o e => x₂ z o (by have := hold1 z o e; omega) (y₂ z o e)
    have hlb : b < H₂.length := lt_of_get hb
    refine ⟨rfl, by simp; omega, (x.trans z₁).trans z₂, bs ++ [b], by simp [hl], by simp, ?_, ?_, ?_⟩
    · rw [List.pairwise_append]
      refine ⟨hp, List.pairwise_singleton _ _, fun u hu w hw => ?_⟩
      rw [List.mem_singleton] at hw
      have := (hlt u hu).2
      omega
    · intro u hu
      rcases List.mem_append.mp hu with hu | hu
      · have := hlt u hu; exact ⟨this.1, by omega⟩
      · rw [List.mem_singleton] at hu; exact ⟨by omega, by omega⟩
    · intro j u hu
      by_cases hj : j < bs.length
      · rw [List.getElem?_append_left hj] at hu
        exact ((hB j u hu).ext z₁).ext z₂
      · rw [List.getElem?_append_right (by omega)] at hu
        have hj0 : j - bs.length = 0 := by
          by_cases h : j - bs.length = 0
          · exact h
          · rw [List.getElem?_eq_none (by simp; omega)] at hu; cases hu
        rw [hj0] at hu
        cases hu
        have : j = k := by omega
        rw [this]
        exact ⟨c, hb, z₂ _ _ hc1⟩
  · (revert hi; refine ob_AEAAAAr fun x bs hl o1_ hp hlt hB => ?_; subst o1_)
    have y := Ext.push H' (.list (refsOf bs))
    exact q _ bs H'.length (x.trans y) hl hp hlt x.len (fun j b hb => (hB j b hb).ext y) (get_new _ _)
end
section
variable {H : RH} {Q : PV} {n : Nat}
abbrev PL3 : List RV := [sl 0 0 0, sl 0 1 0, sl 0 2 0]
abbrev CL (c0 c1 c2 : Bool) : List RV := (if c0 then [sl 0 0 0] else []) ++ (if c1 then [sl 0 1 0] else []) ++ (if c2 then [sl 0 2 0] else [])
noncomputable def spS : SetP := (addAll fr0 PL3).getD fr0
theorem sp_is : addAll fr0 PL3 = some spS := by kernel_rfl
theorem sp_pl : spS.2.2.plain = true ∧ SetTable.rising spS.2.2.place = true := ⟨by kernel_rfl, by kernel_rfl⟩
theorem sp_len : spS.1.length = 3 := by kernel_rfl
noncomputable def isS0 (v : RV) : Bool := match asT v with
  | some [x, y, z] => asI x == some 0 && ((asI y).isSome && asI z == some 0)
  | _ => false
theorem isS0_of {v : RV} (h : isS0 v = true) : ∃ b : Int, v = sl 0 b 0 := by
  have h : (match asT v with | some [x, y, z] => asI x == some 0 && ((asI y).isSome && asI z == some 0) | _ => false) = true := h
  cases e : asT v with
  | none => rw [e] at h; exact absurd h Bool.false_ne_true
  | some l =>
    rw [e] at h
    rcases l with _ | ⟨x, _ | ⟨y, _ | ⟨z, _ | _⟩⟩⟩ <;> first | exact absurd h Bool.false_ne_true | skip
    refine ob_A (an h) fun h1 h => ?_
    refine ob_A (an h) fun h2 h3 => ?_
    refine ob_E (Option.isSome_iff_exists.mp h2) fun b hb => ?_
    exact ⟨b, by rw [asT_of e, asI_of (eq_of_beq h1), asI_of hb, asI_of (eq_of_beq h3)]⟩
noncomputable def cB (sc : SetP) (v : RV) : Bool := (inSet v sc.1 sc.2.2).getD false
noncomputable def chkC (L : List RV) (m : Nat) : Bool := match addAll fr0 L with
  | some sc => sc.2.2.plain && SetTable.rising sc.2.2.place && sc.1.all (fun e => isS0 e.2) && ([0, 1] : List Int).all (fun b => ([0, 1, 2] : List Int).all fun r => ([0, 1] : List Int).all fun u => (match inSet (sl b r u) sc.1 sc.2.2 with | some z => b == 0 || !z | none => false)) &&
      spS.1.all (fun e => (inSet e.2 sc.1 sc.2.2).isSome) && ((spS.1.map (·.2)).filter (fun v => !cB sc v)).length == m
  | none => false
theorem chk_all (c0 c1 c2 : Bool) : chkC (CL c0 c1 c2) (3 - (CL c0 c1 c2).length) = true := by
  cases c0 <;> cases c1 <;> cases c2 <;> kernel_rfl
structure ClOk (L : List RV) (m : Nat) (sc : SetP) : Prop where
  all : addAll fr0 L = some sc
  pl : sc.2.2.plain = true ∧ SetTable.rising sc.2.2.place = true
  z : ∀ v ∈ sc.1.map (·.2), ∃ b : Int, v = sl 0 b 0
  hin : ∀ b r u : Int, 0 ≤ b → b < 2 → 0 ≤ r → r < 3 → 0 ≤ u → u < 2 → ∃ z, inSet (.tup [.int b, .int r, .int u]) sc.1 sc.2.2 = some z ∧ (b = 1 → z = false)
  c : (∀ v ∈ spS.1.map (·.2), inSet v sc.1 sc.2.2 = some (cB sc v)) ∧ ((spS.1.map (·.2)).filter (fun v => !cB sc v)).length = m
theorem clOk_of {L : List RV} {m : Nat} (h : chkC L m = true) : ∃ sc, ClOk L m sc := by
  unfold chkC at h
  cases e : addAll fr0 L with
  | none => rw [e] at h; cases h
  | some sc =>
    rw [e] at h
    refine ob_A (Bool.and_eq_true_iff.mp h) fun h h6 => ?_
    refine ob_A (Bool.and_eq_true_iff.mp h) fun h h5 => ?_
    refine ob_A (Bool.and_eq_true_iff.mp h) fun h h4 => ?_
    refine ob_A (Bool.and_eq_true_iff.mp h) fun h h3 => ?_
    refine ob_A (Bool.and_eq_true_iff.mp h) fun h1 h2 => ?_
    refine ⟨sc, e, ⟨h1, h2⟩, fun v hv => ?_, fun b r u b0 b1 r0 r1 u0 u1 => ?_, fun v hv => ?_, eq_of_beq h6⟩
    · (refine ob_EA (List.mem_map.mp hv) fun x hx o1_ => ?_; subst o1_)
      exact isS0_of (List.all_eq_true.mp h3 x hx)
    · have hb : b ∈ ([0, 1] : List Int) := by simp only [List.mem_cons, List.not_mem_nil, or_false]; omega
      have hr : r ∈ ([0, 1, 2] : List Int) := by simp only [List.mem_cons, List.not_mem_nil, or_false]; omega
      have hu : u ∈ ([0, 1] : List Int) := by simp only [List.mem_cons, List.not_mem_nil, or_false]; omega
      have := List.all_eq_true.mp (List.all_eq_true.mp (List.all_eq_true.mp h4 b hb) r hr) u hu
      cases e : inSet (sl b r u) sc.1 sc.2.2 with
      | none => rw [e] at this; cases this
      | some z =>
        rw [e] at this
        refine ⟨z, rfl, fun hb1 => ?_⟩
        subst hb1
        cases z with
        | false => rfl
        | true => exact absurd this (by decide)
    · (refine ob_EA (List.mem_map.mp hv) fun x hx o1_ => ?_; subst o1_)
      have := List.all_eq_true.mp h5 x hx
      refine ob_E (Option.isSome_iff_exists.mp this) fun z hz => ?_
      unfold cB
      rw [hz]; rfl
noncomputable def bitP (zs : List Int) : RV → Bool
  | .int i => Int.fmod (zs.getD i.toNat 0) 2 != 0
  | _ => false
theorem cl_is (zs : List Int) : ((rngL 0 3 1).filter (bitP zs)).map (fun v => RV.tup [.int 0, v, .int 0]) = CL (Int.fmod (zs.getD 0 0) 2 != 0) (Int.fmod (zs.getD 1 0) 2 != 0) (Int.fmod (zs.getD 2 0) 2 != 0) := by
  have key : ∀ p : RV → Bool, (([RV.int 0, RV.int 1, RV.int 2]).filter p).map (fun v => RV.tup [.int 0, v, .int 0]) = CL (p (.int 0)) (p (.int 1)) (p (.int 2)) := fun p => by
    simp only [List.filter_cons, List.filter_nil]
    cases p (.int 0) <;> cases p (.int 1) <;> cases p (.int 2) <;> rfl
  exact key (bitP zs)
theorem nubA_mem : ∀ (l acc : List Str) (x : Str), x ∈ nubA acc l ↔ x ∈ acc ∨ x ∈ l
  | [], acc, x => by show x ∈ acc ↔ _; simp
  | y :: r, acc, x => by
    show x ∈ nubA (if acc.contains y then acc else acc ++ [y]) r ↔ _
    rw [nubA_mem r]
    by_cases h : acc.contains y = true
    · rw [if_pos h]
      have : y ∈ acc := List.contains_iff_mem.mp h
      constructor
      · rintro (h | h)
        · exact .inl h
        · exact .inr (.tail _ h)
      · rintro (h | h)
        · exact .inl h
        · rcases List.mem_cons.mp h with rfl | h
          · exact .inl this
          · exact .inr h
    · rw [if_neg h]; simp [or_assoc]
theorem nubA_nodup : ∀ (l acc : List Str), acc.Nodup → (nubA acc l).Nodup
  | [], acc, h => h
  | y :: r, acc, h => by
    show (nubA (if acc.contains y then acc else acc ++ [y]) r).Nodup
    refine nubA_nodup r _ ?_
    by_cases hc : acc.contains y = true
    · rw [if_pos hc]; exact h
    · rw [if_neg hc]
      have : y ∉ acc := fun hm => hc (List.contains_iff_mem.mpr hm)
      rw [List.nodup_append]
      exact ⟨h, by simp, fun a ha b hb e => by rw [List.mem_singleton] at hb; rw [e, hb] at ha; exact this ha⟩
theorem nub_mem (l : List Str) (x : Str) : x ∈ nubS l ↔ x ∈ l := by unfold nubS; rw [nubA_mem]; simp
theorem nub_nodup (l : List Str) : (nubS l).Nodup := nubA_nodup l [] .nil
theorem nub_len {l l' : List Str} (h : ∀ x, x ∈ l ↔ x ∈ l') : (nubS l).length = (nubS l').length := by
  have : (nubS l).Perm (nubS l') := (List.perm_ext_iff_of_nodup (nub_nodup l) (nub_nodup l')).mpr fun x => by rw [nub_mem, nub_mem]; exact h x
  exact this.length_eq
theorem nub_same {l : List Str} (h : l.Nodup) : (nubS l).length = l.length := by
  have : (nubS l).Perm l := (List.perm_ext_iff_of_nodup (nub_nodup l) h).mpr fun x => nub_mem l x
  exact this.length_eq
theorem nub_snoc (l : List Str) (x : Str) : (nubS (l ++ [x])).length = if l.contains x then (nubS l).length else (nubS l).length + 1 := by
  by_cases h : l.contains x = true
  · rw [if_pos h]
    have hm := List.contains_iff_mem.mp h
    exact nub_len fun y => by
      rw [List.mem_append, List.mem_singleton]
      exact ⟨fun h => h.elim id fun e => e ▸ hm, .inl⟩
  · rw [if_neg h]
    have hn : x ∉ l := fun hm => h (List.contains_iff_mem.mpr hm)
    have : (nubS (l ++ [x])).Perm (nubS l ++ [x]) := by
      refine (List.perm_ext_iff_of_nodup (nub_nodup _) ?_).mpr fun y => ?_
      · rw [List.nodup_append]
        exact ⟨nub_nodup l, by simp, fun a ha b hb e => by rw [List.mem_singleton] at hb; rw [e, hb, nub_mem] at ha; exact hn ha⟩
      · rw [nub_mem, List.mem_append, List.mem_append, nub_mem]
    rw [this.length_eq, List.length_append]; rfl
theorem gr_good (m : Nat) (nm : Nat → Str) (l : List Nat) : ((gr m nm l).1.map nm).Nodup ∧ (gr m nm l).1.length = min m (nubS (l.map nm)).length ∧ ((gr m nm l).1.length < m → ∀ x, x ∈ (gr m nm l).1.map nm ↔ x ∈ l.map nm) := by
  have aux : ∀ (k : Nat), ((gr m nm (l.take k)).1.map nm).Nodup ∧ (gr m nm (l.take k)).1.length = min m (nubS ((l.take k).map nm)).length ∧ ((gr m nm (l.take k)).1.length < m → ∀ x, x ∈ (gr m nm (l.take k)).1.map nm ↔ x ∈ (l.take k).map nm) := by
    intro k
    induction k with
    | zero =>
      rw [List.take_zero]
      refine ⟨.nil, ?_, fun z_ x => Iff.rfl⟩
      show 0 = min m 0
      omega
    | succ k ih =>
      rw [List.take_add_one]
      cases e : l[k]? with
      | none => simpa using ih
      | some b =>
        (revert ih; refine ob_AAr fun i1 i2 i3 => ?_)
        rw [Option.toList_some, gr_snoc, List.map_append]
        generalize gr m nm (l.take k) = g at i1 i2 i3 ⊢
        obtain ⟨ta, re⟩ := g
        show ((gr1 m nm (ta, re) b).1.map nm).Nodup ∧ (gr1 m nm (ta, re) b).1.length = min m (nubS ((l.take k).map nm ++ [nm b])).length ∧ ((gr1 m nm (ta, re) b).1.length < m → ∀ x, x ∈ (gr1 m nm (ta, re) b).1.map nm ↔ x ∈ (l.take k).map nm ++ [nm b])
        have i1 : (ta.map nm).Nodup := i1
        have i2 : ta.length = min m (nubS ((l.take k).map nm)).length := i2
        have i3 : ta.length < m → ∀ x, x ∈ ta.map nm ↔ x ∈ (l.take k).map nm := i3
        rw [nub_snoc]
        by_cases hc : (!((ta.map nm).contains (nm b)) && decide (ta.length < m)) = true
        · have hg : gr1 m nm (ta, re) b = (ta ++ [b], re) := if_pos hc
          rw [hg]
          refine ob_A (Bool.and_eq_true_iff.mp hc) fun h1 h2 => ?_
          have h2 := of_decide_eq_true h2
          have hn : nm b ∉ ta.map nm := fun hm => by
            have := List.contains_iff_mem.mpr hm
            rw [this] at h1; cases h1
          have hn' : nm b ∉ (l.take k).map nm := fun hm => hn ((i3 h2 _).mpr hm)
          have hcf : ((l.take k).map nm).contains (nm b) = false := by
            cases e : ((l.take k).map nm).contains (nm b) with
            | false => rfl
            | true => exact absurd (List.contains_iff_mem.mp e) hn'
          rw [hcf, if_neg Bool.false_ne_true]
          refine ⟨?_, ?_, fun z_ x => ?_⟩
          · show ((ta ++ [b]).map nm).Nodup
            rw [List.map_append, List.nodup_append]
            exact ⟨i1, by simp, fun a ha c hc' e => by simp at hc'; rw [e, hc'] at ha; exact hn ha⟩
          · show (ta ++ [b]).length = _
            rw [List.length_append, List.length_singleton]; omega
          · show x ∈ (ta ++ [b]).map nm ↔ _
            rw [List.map_append, List.mem_append, List.mem_append, i3 h2 x]; rfl
        · have hg : gr1 m nm (ta, re) b = (ta, re ++ [nm b]) := if_neg hc
          rw [hg]
          by_cases h2 : ta.length < m
          · have hm : nm b ∈ ta.map nm := by
              by_cases h : (ta.map nm).contains (nm b) = true
              · exact List.contains_iff_mem.mp h
              · exact absurd (by rw [Bool.eq_false_iff.mpr h, decide_eq_true h2]; rfl) hc
            have hm' := (i3 h2 _).mp hm
            rw [List.contains_iff_mem.mpr hm', if_pos rfl]
            refine ⟨i1, i2, fun z_ x => ?_⟩
            show x ∈ ta.map nm ↔ _
            rw [List.mem_append, List.mem_singleton, i3 h2 x]
            exact ⟨.inl, fun h => h.elim id fun e => e ▸ hm'⟩
          · refine ⟨i1, ?_, fun h => absurd h h2⟩
            show ta.length = _
            split <;> omega
  have := aux l.length
  rw [List.take_length] at this
  exact this
end
theorem Bk.two {H H' : RH} {b tk : Nat} {s : Str} {f : Int} {l : List RV} {z : Bool} (h : Bk H b s f) (ht : H[tk]? = some (.list l)) (h0 : H[0]? = some (.tab z)) (x : Ext2 tk 0 H H') : Bk H' b s f := by
  (revert h; refine ob_EAr fun c h1 h2 => ?_)
  refine ⟨c, x _ _ (fun e => ?_) (fun e => ?_) h1, x _ _ (fun e => ?_) (fun e => ?_) h2⟩
  · rw [e, ht] at h1; cases h1
  · rw [e, h0] at h1; cases h1
  · rw [e, ht] at h2; cases h2
  · rw [e, h0] at h2; cases h2
theorem strs_map_len {l : List Str} : strsP (l.map RV.str) = some l := by
  have := strsP_map id l
  rw [List.map_id] at this
  exact this
set_option tactic.hygienic true in
theorem nub_le : ∀ (l acc : List Str), (nubA acc l).length ≤ acc.length + l.length
  | [], acc => by show acc.length ≤ _; simp
  | y :: r, acc => by
    show (nubA (if acc.contains y then acc else acc ++ [y]) r).length ≤ _
    have := nub_le r (if acc.contains y then acc else acc ++ [y])
    rw [List.length_cons]
    split at this
    · split
      · omega
      · rename_i h _; contradiction
    · split
      · rename_i h _; contradiction
      · rw [List.length_append, List.length_singleton] at this; omega
theorem law08 (zs : List Int) (hz : zs.length ≤ 63) : callU L08 12 L08_law [.arg (zs.map .int)] [.tab false] fun v z_ => v = .bool true := by
  have h0 : ([.tab false] : RH)[0]? = some (.tab false) := rfl
  generalize ([.tab false] : RH) = H at h0 ⊢
  rw [s_call, L08_law, b1]
  walk_at "wp"
  refine ⟨by decide, by decide, ?_⟩
  refine comp_map (goes_items _ _) (by decide) (bitP zs) (fun v => .tup [.int 0, v, .int 0]) (fun v hv H₂ x => ?_) fun cL H₁ x₁ hcL z_ => ?_
  · refine ob_E (List.mem_iff_getElem?.mp hv) fun i hi => ?_
    (refine ob_A (rngL_at hi) fun o1_ hi3 => ?_; subst o1_)
    rw [Int.zero_add]
    walk_at "wp"
    refine law_cell hz (by omega) (by omega) ?_
    simp only [bitP]
    walk_at "wp"
    refine ⟨by decide, ?_⟩
    cases hb : ((zs.getD (i : Int).toNat 0).fmod 2 != 0) with
    | true => rw [if_pos rfl]; exact ⟨rfl, Ext.refl _, fun z_ => ⟨by rw [sizeLine_eq]; omega, Ext.refl _⟩⟩
    | false => rw [if_neg Bool.false_ne_true]; exact ⟨rfl, Ext.refl _, fun h => by cases h⟩
  rw [cl_is] at hcL
  have hck := chk_all (Int.fmod (zs.getD 0 0) 2 != 0) (Int.fmod (zs.getD 1 0) 2 != 0) (Int.fmod (zs.getD 2 0) 2 != 0)
  have hcb : ∀ v ∈ CL (Int.fmod (zs.getD 0 0) 2 != 0) (Int.fmod (zs.getD 1 0) 2 != 0) (Int.fmod (zs.getD 2 0) 2 != 0), ∃ a b c : Int, v = sl a b c ∧ 0 ≤ a ∧ a < 2 ∧ 0 ≤ b ∧ b < 3 ∧ 0 ≤ c ∧ c < 2 := by
    intro v hv
    have : v ∈ PL3 := by
      generalize (Int.fmod (zs.getD 0 0) 2 != 0) = a at hv
      generalize (Int.fmod (zs.getD 1 0) 2 != 0) = b at hv
      generalize (Int.fmod (zs.getD 2 0) 2 != 0) = c at hv
      cases a <;> cases b <;> cases c <;> simp only [CL, if_true, if_false, Bool.false_eq_true, List.nil_append, List.append_nil, List.cons_append, List.mem_cons, List.not_mem_nil, or_false] at hv ⊢ <;> grind
    simp only [List.mem_cons, List.not_mem_nil, or_false] at this
    rcases this with rfl | rfl | rfl
    · exact ⟨0, 0, 0, rfl, by omega⟩
    · exact ⟨0, 1, 0, rfl, by omega⟩
    · exact ⟨0, 2, 0, rfl, by omega⟩
  have hcl3 : (CL (Int.fmod (zs.getD 0 0) 2 != 0) (Int.fmod (zs.getD 1 0) 2 != 0) (Int.fmod (zs.getD 2 0) 2 != 0)).length ≤ 3 := by
    generalize (Int.fmod (zs.getD 0 0) 2 != 0) = a
    generalize (Int.fmod (zs.getD 1 0) 2 != 0) = b
    generalize (Int.fmod (zs.getD 2 0) 2 != 0) = c
    cases a <;> cases b <;> cases c <;> decide
  generalize CL (Int.fmod (zs.getD 0 0) 2 != 0) (Int.fmod (zs.getD 1 0) 2 != 0) (Int.fmod (zs.getD 2 0) 2 != 0) = L at hcL hck hcb hcl3
  refine ob_E (clOk_of hck) fun sc hC => ?_
  have h0 := x₁ _ _ h0
  walk_at "wp"
  have sz3 : 3 ≤ sizeLine := by rw [sizeLine_eq]; omega
  refine ⟨sz3, sz3, sz3, sz3, ?_⟩
  have xP := Ext.push H₁ (.list PL3)
  have hP := get_new H₁ (.list PL3)
  generalize H₁.length = pL at hP ⊢
  have h0 := xP _ _ h0
  have hcL := xP _ _ hcL
  generalize H₁ ++ [.list PL3] = H₂ at xP hP h0 hcL ⊢
  have xS := Ext.push H₂ (.inst "Ship" [])
  have hS0 := get_new H₂ (.inst "Ship" [])
  generalize hsh : H₂.length = sh at hS0 ⊢
  have h0 := xS _ _ h0
  have hcL := xS _ _ hcL
  have hP := xS _ _ hP
  have hcne : cL ≠ sh := fun e => by rw [e, hS0] at hcL; cases hcL
  have h0ne : 0 ≠ sh := fun e => by rw [← e, h0] at hS0; cases hS0
  generalize H₂ ++ [.inst "Ship" []] = H₃ at xS hS0 h0 hcL hP ⊢
  refine ship_ok (n := 8) hS0 hP hcL sp_is hC.all (fun v hv => ?_) hcb hC.pl hC.z fun H₄ cl pl y hs hcl hpl => ?_
  · simp only [List.mem_cons, List.not_mem_nil, or_false] at hv
    rcases hv with rfl | rfl | rfl
    · exact ⟨0, 0, 0, rfl, by omega⟩
    · exact ⟨0, 1, 0, rfl, by omega⟩
    · exact ⟨0, 2, 0, rfl, by omega⟩
  have h0 := y _ _ h0ne h0
  have hcL := y _ _ hcne hcL
  refine ⟨rfl, ?_⟩
  walk_at "wp"
  refine ⟨by rw [sizeLine_eq]; omega, ?_⟩
  have xQ := Ext.push H₄ (.list [.str (Str.ofString "p"), .str (Str.ofString "q")])
  have hq := get_new H₄ (.list [.str (Str.ofString "p"), .str (Str.ofString "q")])
  generalize H₄.length = lq at hq ⊢
  have h0 := xQ _ _ h0
  have hcL := xQ _ _ hcL
  have hs := xQ _ _ hs
  have hcl := xQ _ _ hcl
  have hpl := xQ _ _ hpl
  generalize H₄ ++ [.list [.str (Str.ofString "p"), .str (Str.ofString "q")]] = H₅ at xQ hq h0 hcL hs hcl hpl ⊢
  have xB := Ext.push H₅ (.inst "Book" [])
  have hB0 := get_new H₅ (.inst "Book" [])
  have hlt : ∀ z o, H₅[z]? = some o → z ≠ H₅.length := fun z o e => Nat.ne_of_lt (lt_of_get e)
  generalize H₅.length = bk at hB0 hlt ⊢
  have n0 := hlt _ _ h0
  have nL := hlt _ _ hcL
  have ns := hlt _ _ hs
  have nc := hlt _ _ hcl
  have np := hlt _ _ hpl
  have h0 := xB _ _ h0
  have hcL := xB _ _ hcL
  have hs := xB _ _ hs
  have hcl := xB _ _ hcl
  have hpl := xB _ _ hpl
  have hq := xB _ _ hq
  generalize H₅ ++ [.inst "Book" []] = H₆ at xB hB0 h0 hcL hs hcl hpl hq ⊢
  refine book_ok (n := 10) hB0 hq fun H₇ tk z hfr htb hbk htk => ?_
  have t0 := hfr _ _ n0 h0
  have tL := hfr _ _ nL hcL
  have ts := hfr _ _ ns hs
  have tc := hfr _ _ nc hcl
  have tp := hfr _ _ np hpl
  have h0 := z _ _ n0 h0
  have hcL := z _ _ nL hcL
  have hs := z _ _ ns hs
  have hcl := z _ _ nc hcl
  have hpl := z _ _ np hpl
  have hSt : St H₇ bk tk (3 - L.length) := ⟨sh, cl, pl, _, _, _, _, _, _, hbk, hs, hcl, hpl, sp_pl.1, sp_pl.2, by rw [sp_len]; decide, htb, Ne.symm ts, Ne.symm tc, Ne.symm tp, hC.hin, cB sc, hC.c⟩
  refine ⟨rfl, ?_⟩
  walk_at "wp"
  refine ⟨by decide, by decide, ?_⟩
  refine rows_ok (n := 9) hz (by walk_at "wp") fun H₈ bs bl x8 hl4 hpw hlt hle hBk hbl => ?_
  walk_at "wp"
  let nm : Nat → Str := fun b => nameOf (zs.getD (3 + bs.idxOf b) 0)
  let fe : Nat → Int := fun b => Int.fmod (zs.getD (7 + bs.idxOf b) 0) 50
  have hn : ∀ i, PyData.canLay0 (.str (nm i)) = true := fun i => (word_of _).y
  have hA : All H₈ nm fe bs := fun b hb => by
    have hj : bs.idxOf b < bs.length := List.idxOf_lt_length_of_mem hb
    have e : bs[bs.idxOf b]? = some b := by rw [List.getElem?_eq_getElem hj, List.getElem_idxOf]
    exact ⟨hBk _ _ e, Int.fmod_nonneg_of_pos _ (by decide), Int.fmod_lt_of_pos _ (by decide)⟩
  have hblt : bl ≠ tk := by have := lt_of_get htk; omega
  have h08 := x8 _ _ h0
  have htk8 := x8 _ _ htk
  refine accept_ok (n := 4) (nm := nm) (fe := fe) h08 (hSt.ext x8) htk8 hbl hblt hl4 hA hn fun H₉ r rl is hp y9 htk9 hr9 hrl => ?_
  have bk0 : bk ≠ 0 := Ne.symm n0
  have hbk9 := y9 _ _ (Ne.symm htb) bk0 (x8 _ _ hbk)
  have hcL9 := y9 _ _ tL (tab_ne h0 hcL (fun z_ e => by cases e)) (x8 _ _ hcL)
  have hbl9 := y9 _ _ hblt (tab_ne h08 hbl (fun z_ e => by cases e)) hbl
  have hA9 : All H₉ nm fe bs := fun b hb => ⟨(hA b hb).1.two htk8 h08 y9, (hA b hb).2⟩
  have hisb : ∀ i ∈ is, i < 4 := fun i hi => by
    have : i ∈ [0, 1, 2, 3] := hp.mem_iff.mp hi
    simp only [List.mem_cons, List.not_mem_nil, or_false] at this
    omega
  have hordm : ∀ b, b ∈ is.map (fun i => bs.getD i 0) ↔ b ∈ bs := fun b => by
    constructor
    · intro h
      (refine ob_EA (List.mem_map.mp h) fun i hi o1_ => ?_; subst o1_)
      have := hisb i hi
      rw [List.getD_eq_getElem?_getD, List.getElem?_eq_getElem (by omega)]
      exact List.getElem_mem _
    · intro h
      refine ob_E (List.mem_iff_getElem?.mp h) fun i hi => ?_
      have hi4 : i < 4 := by
        by_cases h : i < bs.length
        · omega
        · rw [List.getElem?_eq_none (by omega)] at hi; cases hi
      refine List.mem_map.mpr ⟨i, hp.mem_iff.mpr ?_, by rw [List.getD_eq_getElem?_getD, hi]; rfl⟩
      simp only [List.mem_cons, List.not_mem_nil, or_false]
      omega
  have hgl := gr_len (3 - L.length) nm (is.map fun i => bs.getD i 0)
  rw [List.length_map, hp.length_eq] at hgl
  have hgl : (gr (3 - L.length) nm (is.map fun i => bs.getD i 0)).1.length + (gr (3 - L.length) nm (is.map fun i => bs.getD i 0)).2.length = 4 := hgl
  refine ob_AA (gr_good (3 - L.length) nm (is.map fun i => bs.getD i 0)) fun g1 g2 z_ => ?_
  have hgm : ∀ b ∈ (gr (3 - L.length) nm (is.map fun i => bs.getD i 0)).1, b ∈ bs := fun b hb => (hordm b).mp (gr_mem _ _ _ b hb)
  have hnb : (nubS ((is.map fun i => bs.getD i 0).map nm)).length = (nubS (bs.map nm)).length := nub_len fun x => by
    constructor
    · intro h
      (refine ob_EA (List.mem_map.mp h) fun b hb o1_ => ?_; subst o1_)
      exact List.mem_map.mpr ⟨b, (hordm b).mp hb, rfl⟩
    · intro h
      (refine ob_EA (List.mem_map.mp h) fun b hb o1_ => ?_; subst o1_)
      exact List.mem_map.mpr ⟨b, (hordm b).mpr hb, rfl⟩
  rw [hnb] at g2
  generalize (gr (3 - L.length) nm (is.map fun i => bs.getD i 0)).1 = ta at htk9 hgl g1 g2 hgm
  generalize (gr (3 - L.length) nm (is.map fun i => bs.getD i 0)).2 = re at hrl hgl
  walk_at "wp"
  refine names_ok rfl htk9 (hA9.bks hgm) (by omega) fun i H₁₀ x10 hi z_ => ?_
  have hcL10 := x10 _ _ hcL9
  have hbl10 := x10 _ _ hbl9
  have hr10 := x10 _ _ hr9
  walk_at "wp"
  rw [strs_map_len]
  walk_at "wp"
  have e1 : (List.map RV.str (ta.map nm)).length = ta.length := by rw [List.length_map, List.length_map]
  have e2 : (nubS (ta.map nm)).length = ta.length := by rw [nub_same g1, List.length_map]
  have fit : ∀ k : Nat, k < 100 → fitN k := fun k h => by show k < 2 ^ 63; omega
  rw [e1, e2, if_neg (by simp)]
  refine ⟨by rw [List.length_map]; omega, fit _ (by omega), fit _ (by omega), ?_⟩
  walk_at "wp"
  refine ⟨fit _ (by omega), fit _ (by omega), ?_⟩
  refine names_ok rfl hbl10 ((hA9.ext x10).bks fun b hb => hb) (by omega) fun j H₁₁ x11 hj z_ => ?_
  have hr11 := x11 _ _ hr10
  have hi11 := x11 _ _ hi
  walk_at "wp"
  rw [strs_map_len]
  walk_at "wp"
  have hnl : (nubS (bs.map nm)).length ≤ 4 := by
    have := nub_le (bs.map nm) []
    rw [List.length_map, hl4] at this
    exact this
  generalize (nubS (bs.map nm)).length = d at g2 hnl ⊢
  refine ⟨by rw [List.length_map]; omega, fit _ (by omega), ?_⟩
  have hd : (((min (3 - L.length) d : Nat) : Int) == if (d : Int) < 3 - (L.length : Int) then (d : Int) else 3 - (L.length : Int)) = true := by
    rw [beq_iff_eq]
    split <;> omega
  rw [hd, if_neg (by simp)]
  walk_at "wp"
  refine ⟨fit _ (by omega), fit _ (by omega), ?_⟩
  have : ((re.length : Int) + ((min (3 - L.length) d : Nat) : Int) == 4) = true := by rw [beq_iff_eq]; omega
  rw [this]
end L8
end Mine
namespace Mine.Hd
open PySem PySem.W PyProof.Rows
noncomputable def nth (l : List Stmt) (n : Nat) : Stmt := l.getD n (.Pass default)
noncomputable def inn : Stmt → List Stmt
  | .FunctionDef _ _ b .. => b
  | .ClassDef _ _ _ b .. => b
  | _ => []
noncomputable def sar : Stmt → Arguments
  | .FunctionDef _ a .. => a
  | _ => ⟨[], [], none, [], [], none, []⟩
noncomputable def ssc : Stmt → Scope
  | .FunctionDef _ _ _ _ _ _ s .. => s
  | .ClassDef _ _ _ _ _ _ s .. => s
  | _ => default
noncomputable def noArgs : Arguments := ⟨[], [], none, [], [], none, []⟩
noncomputable def en (P : Params) (x : Str) (t : Tok) (v : Value) : DictEntry := ⟨PyData.keyHash P x, .str x t, v⟩
noncomputable def gs : Array GenState := Array.mk []
noncomputable def dr : Drawn := {}
noncomputable def bd : List Stmt := behindTheImports PySem.Challenge.pw_ui0503_08
noncomputable def env : Env := { scope := PySem.Challenge.pw_ui0503_08.main.scope, locals := mainNs, globals := mainNs, cells := [], code := (.ref 13), frame := some 14 }
noncomputable def cE : Code := .body bd env
noncomputable def B : List Frame := [topFrame ⟨0, 0, 0, 0⟩]
noncomputable def o11_0 (P : Params) : Obj := ⟨(.type "tuple"), none, (.seq #[] 0), #[]⟩
noncomputable def o12_0 (P : Params) : Obj := ⟨.none, none, (.fields #[]), #[]⟩
noncomputable def o13_0 (P : Params) : Obj := ⟨(.type "code"), none, (.fields #[(.str (.ofString "<module>") 182), (.str (.ofString "<module>") 183), (.str (.ofString "/claim/cut.py") 184), (.int 1 0), (.int 0 0), (.int 0 0), (.int 0 0), (.int 0 0), (.ref 11), (.bool false), (.int 181 0), (.ref 12), .none, .none, .none, .none, (.int 185 0), (.int 1 0), (.str (.ofString "/claim/cut.py") 186)]), #[]⟩
noncomputable def o14_0 (P : Params) : Obj := ⟨(.type "frame"), none, .plain, #[(some (.ref 13)), (some (.ref 3)), (some (.ref 3)), none, (some (.str (.ofString "__main__") 164)), none, (some (.ref 0))]⟩
noncomputable def Ha (P : Params) : Heap := ⟨⟨[PySem.W.boot_o_0 P, PySem.W.boot_o_1 P, PySem.W.boot_o_2 P, PySem.W.boot_o_3 P, PySem.W.boot_o_4 P, PySem.W.boot_o_5 P, PySem.W.boot_o_6 P, PySem.W.boot_o_7 P, PySem.W.boot_o_8 P, PySem.W.boot_o_9 P, PySem.W.boot_o_10 P, o11_0 P, o12_0 P, o13_0 P, o14_0 P]⟩, {}⟩
noncomputable def T0 (P : Params) : BT := (.node (PySem.W.boot_o_0 P) (.node (PySem.W.boot_o_1 P) (.node (PySem.W.boot_o_3 P) (.node (PySem.W.boot_o_7 P) .nil .nil) (.node (o11_0 P) .nil .nil)) (.node (PySem.W.boot_o_5 P) (.node (PySem.W.boot_o_9 P) .nil .nil) (.node (o13_0 P) .nil .nil))) (.node (PySem.W.boot_o_2 P) (.node (PySem.W.boot_o_4 P) (.node (PySem.W.boot_o_8 P) .nil .nil) (.node (o12_0 P) .nil .nil)) (.node (PySem.W.boot_o_6 P) (.node (PySem.W.boot_o_10 P) .nil .nil) (.node (o14_0 P) .nil .nil))))
noncomputable def o2_2 (P : Params) : Obj := ⟨.none, none, (.dict #[en P (.ofString "type.__subclasses__.Exception.0") 212 (.int 31 0), en P (.ofString "type.__subclasses__.Exception.n") 213 (.int 1 0)] 2), #[]⟩
noncomputable def o3_2 (P : Params) : Obj := ⟨(.type "dict"), none, (.dict #[en P (.ofString "__name__") 165 (.str (.ofString "bayplan.errors") 194), en P (.ofString "__doc__") 166 .none, en P (.ofString "__package__") 167 .none, en P (.ofString "__loader__") 168 (.builtin "__main__.__loader__#opaque"), en P (.ofString "__spec__") 169 .none, en P (.ofString "__annotations__") 170 (.ref 6), en P (.ofString "__builtins__") 171 (.ref 4), en P (.ofString "__file__") 173 (.str (.ofString "/claim/cut.py") 172), en P (.ofString "__cached__") 174 .none, en P (.ofString "_wall") 193 (.ref 21), en P (.ofString "StowError") 215 (.ref 31), en P (.ofString "ShipError") 231 (.ref 44)] 12), #[]⟩
noncomputable def o12_2 (P : Params) : Obj := ⟨.none, none, (.fields #[(.int 1 0), (.int 0 0), (.ref 20), (.int 5 0), (.int 0 0), (.ref 27), (.int 7 0), (.int 0 0), (.ref 40)]), #[]⟩
noncomputable def o15_2 (P : Params) : Obj := ⟨(.type "tuple"), none, (.seq #[] 0), #[]⟩
noncomputable def o16_2 (P : Params) : Obj := ⟨.none, none, (.fields #[]), #[]⟩
noncomputable def o17_2 (P : Params) : Obj := ⟨(.type "tuple"), none, (.seq #[(.str (.ofString "k") 190)] 0), #[]⟩
noncomputable def o18_2 (P : Params) : Obj := ⟨(.type "tuple"), none, (.seq #[] 0), #[]⟩
noncomputable def o19_2 (P : Params) : Obj := ⟨.none, none, (.func { name := (.ofString "_wall"), qualname := (.ofString "_wall"), params := (sar (nth bd 0)), body := (.stmts (inn (nth bd 0))), scope := (ssc (nth bd 0)), globals := 0, closure := [], defaults := .none, kwdefaults := .none, doc := .none, pyModule := .none, annotations := none, code := .none, closureTuple := .none, builtins := 0 }), #[]⟩
noncomputable def o20_2 (P : Params) : Obj := ⟨(.type "code"), none, (.fields #[(.str (.ofString "_wall") 187), (.str (.ofString "_wall") 188), (.str (.ofString "/claim/cut.py") 189), (.int 1 0), (.int 1 0), (.int 0 0), (.int 0 0), (.int 3 0), (.ref 15), (.bool true), (.int 181 0), (.ref 16), .none, (.ref 17), (.ref 18), (.ref 19), (.int 191 0), (.int 1 0), (.str (.ofString "/claim/cut.py") 192)]), #[]⟩
noncomputable def o21_2 (P : Params) : Obj := ⟨(.type "function"), none, (.func { name := (.ofString "_wall"), qualname := (.ofString "_wall"), params := (sar (nth bd 0)), body := (.stmts (inn (nth bd 0))), scope := (ssc (nth bd 0)), globals := 3, closure := [], defaults := .none, kwdefaults := .none, doc := .none, pyModule := (.str (.ofString "__main__") 164), annotations := none, code := (.ref 20), closureTuple := .none, builtins := 0 }), #[]⟩
noncomputable def o22_2 (P : Params) : Obj := ⟨(.type "tuple"), none, (.seq #[(.type "Exception")] 0), #[]⟩
noncomputable def o23_2 (P : Params) : Obj := ⟨(.type "builtin_function_or_method"), none, (.fields #[(.builtin "type.__prepare__"), (.type "type")]), #[]⟩
noncomputable def o24_2 (P : Params) : Obj := ⟨(.type "dict"), none, (.dict #[en P (.ofString "__module__") 203 (.str (.ofString "bayplan.errors") 194), en P (.ofString "__qualname__") 205 (.str (.ofString "StowError") 204), en P (.ofString "__firstlineno__") 207 (.int 5 206), en P (.ofString "__static_attributes__") 208 (.ref 29)] 4), #[]⟩
noncomputable def o25_2 (P : Params) : Obj := ⟨(.type "tuple"), none, (.seq #[] 0), #[]⟩
noncomputable def o26_2 (P : Params) : Obj := ⟨.none, none, (.fields #[]), #[]⟩
noncomputable def o27_2 (P : Params) : Obj := ⟨(.type "code"), none, (.fields #[(.str (.ofString "StowError") 198), (.str (.ofString "StowError") 199), (.str (.ofString "/claim/cut.py") 200), (.int 5 0), (.int 0 0), (.int 0 0), (.int 0 0), (.int 0 0), (.ref 25), (.bool false), (.int 181 0), (.ref 26), .none, .none, .none, .none, (.int 201 0), (.int 5 0), (.str (.ofString "/claim/cut.py") 202)]), #[]⟩
noncomputable def o28_2 (P : Params) : Obj := ⟨(.type "frame"), none, .plain, #[(some (.ref 27)), (some (.ref 3)), (some (.ref 24)), none, (some (.str (.ofString "bayplan.errors") 194)), none, (some (.ref 0))]⟩
noncomputable def o29_2 (P : Params) : Obj := ⟨(.type "tuple"), none, (.seq #[] 0), #[]⟩
noncomputable def o30_2 (P : Params) : Obj := ⟨(.type "dict"), none, (.dict #[en P (.ofString "__module__") 203 (.str (.ofString "bayplan.errors") 194), en P (.ofString "__firstlineno__") 207 (.int 5 206), en P (.ofString "__static_attributes__") 208 (.ref 29), en P (.ofString "__weakref__") 210 (.ref 32), en P (.ofString "__doc__") 211 .none] 3), #[]⟩
noncomputable def o31_2 (P : Params) : Obj := ⟨(.type "type"), none, (.cls { name := (.ofString "StowError"), bases := [(.type "Exception")], mro := [(.ref 31), (.type "Exception"), (.type "BaseException"), (.type "object")], ns := 30, qualname := (.ofString "StowError"), hasDict := true, slotNames := [], subclasses := [(.ref 44)], abstract := false, collection := none, hasDel := false }), #[(some (.ref 22)), none, (some (.str (.ofString "StowError") 196)), (some (.str (.ofString "StowError") 204)), (some (.builtin "Exception.__new__")), (some (.bool true))]⟩
noncomputable def o32_2 (P : Params) : Obj := ⟨(.type "getset_descriptor"), none, (.fields #[(.str (.ofString "__weakref__") 209), (.ref 31), (.builtin "ExceptionGroup.__weakref__"), .none]), #[]⟩
noncomputable def o33_2 (P : Params) : Obj := ⟨(.type "super"), none, (.fields #[(.ref 31), (.ref 31), (.ref 31)]), #[]⟩
noncomputable def o34_2 (P : Params) : Obj := ⟨(.type "builtin_function_or_method"), none, (.fields #[(.builtin "object.__init_subclass__"), (.ref 31)]), #[]⟩
noncomputable def o35_2 (P : Params) : Obj := ⟨(.type "tuple"), none, (.seq #[(.ref 31)] 0), #[]⟩
noncomputable def o36_2 (P : Params) : Obj := ⟨(.type "builtin_function_or_method"), none, (.fields #[(.builtin "type.__prepare__"), (.type "type")]), #[]⟩
noncomputable def o37_2 (P : Params) : Obj := ⟨(.type "dict"), none, (.dict #[en P (.ofString "__module__") 223 (.str (.ofString "bayplan.errors") 194), en P (.ofString "__qualname__") 225 (.str (.ofString "ShipError") 224), en P (.ofString "__firstlineno__") 227 (.int 7 226), en P (.ofString "__static_attributes__") 228 (.ref 42)] 4), #[]⟩
noncomputable def o38_2 (P : Params) : Obj := ⟨(.type "tuple"), none, (.seq #[] 0), #[]⟩
noncomputable def o39_2 (P : Params) : Obj := ⟨.none, none, (.fields #[]), #[]⟩
noncomputable def o40_2 (P : Params) : Obj := ⟨(.type "code"), none, (.fields #[(.str (.ofString "ShipError") 218), (.str (.ofString "ShipError") 219), (.str (.ofString "/claim/cut.py") 220), (.int 7 0), (.int 0 0), (.int 0 0), (.int 0 0), (.int 0 0), (.ref 38), (.bool false), (.int 181 0), (.ref 39), .none, .none, .none, .none, (.int 221 0), (.int 7 0), (.str (.ofString "/claim/cut.py") 222)]), #[]⟩
noncomputable def o41_2 (P : Params) : Obj := ⟨(.type "frame"), none, .plain, #[(some (.ref 40)), (some (.ref 3)), (some (.ref 37)), none, (some (.str (.ofString "bayplan.errors") 194)), none, (some (.ref 0))]⟩
noncomputable def o42_2 (P : Params) : Obj := ⟨(.type "tuple"), none, (.seq #[] 0), #[]⟩
noncomputable def o43_2 (P : Params) : Obj := ⟨(.type "dict"), none, (.dict #[en P (.ofString "__module__") 223 (.str (.ofString "bayplan.errors") 194), en P (.ofString "__firstlineno__") 227 (.int 7 226), en P (.ofString "__static_attributes__") 228 (.ref 42), en P (.ofString "__doc__") 229 .none] 2), #[]⟩
noncomputable def o44_2 (P : Params) : Obj := ⟨(.type "type"), none, (.cls { name := (.ofString "ShipError"), bases := [(.ref 31)], mro := [(.ref 44), (.ref 31), (.type "Exception"), (.type "BaseException"), (.type "object")], ns := 43, qualname := (.ofString "ShipError"), hasDict := true, slotNames := [], subclasses := [], abstract := false, collection := none, hasDel := false }), #[(some (.ref 35)), none, (some (.str (.ofString "ShipError") 216)), (some (.str (.ofString "ShipError") 224)), (some (.builtin "Exception.__new__")), (some (.bool true))]⟩
noncomputable def o45_2 (P : Params) : Obj := ⟨(.type "super"), none, (.fields #[(.ref 44), (.ref 44), (.ref 44)]), #[]⟩
noncomputable def o46_2 (P : Params) : Obj := ⟨(.type "builtin_function_or_method"), none, (.fields #[(.builtin "object.__init_subclass__"), (.ref 44)]), #[]⟩
noncomputable def T1 (P : Params) : BT := (.node (PySem.W.boot_o_0 P) (.node (PySem.W.boot_o_1 P) (.node (o3_2 P) (.node (PySem.W.boot_o_7 P) (.node (o15_2 P) (.node (o31_2 P) .nil .nil) .nil) (.node (o23_2 P) (.node (o39_2 P) .nil .nil) .nil)) (.node (o11_0 P) (.node (o19_2 P) (.node (o35_2 P) .nil .nil) .nil) (.node (o27_2 P) (.node (o43_2 P) .nil .nil) .nil))) (.node (PySem.W.boot_o_5 P) (.node (PySem.W.boot_o_9 P) (.node (o17_2 P) (.node (o33_2 P) .nil .nil) .nil) (.node (o25_2 P) (.node (o41_2 P) .nil .nil) .nil)) (.node (o13_0 P) (.node (o21_2 P) (.node (o37_2 P) .nil .nil) .nil) (.node (o29_2 P) (.node (o45_2 P) .nil .nil) .nil)))) (.node (o2_2 P) (.node (PySem.W.boot_o_4 P) (.node (PySem.W.boot_o_8 P) (.node (o16_2 P) (.node (o32_2 P) .nil .nil) .nil) (.node (o24_2 P) (.node (o40_2 P) .nil .nil) .nil)) (.node (o12_2 P) (.node (o20_2 P) (.node (o36_2 P) .nil .nil) .nil) (.node (o28_2 P) (.node (o44_2 P) .nil .nil) .nil))) (.node (PySem.W.boot_o_6 P) (.node (PySem.W.boot_o_10 P) (.node (o18_2 P) (.node (o34_2 P) .nil .nil) .nil) (.node (o26_2 P) (.node (o42_2 P) .nil .nil) .nil)) (.node (o14_0 P) (.node (o22_2 P) (.node (o38_2 P) .nil .nil) .nil) (.node (o30_2 P) (.node (o46_2 P) .nil .nil) .nil)))))
noncomputable def o3_3 (P : Params) : Obj := ⟨(.type "dict"), none, (.dict #[en P (.ofString "__name__") 165 (.str (.ofString "bayplan.ship") 248), en P (.ofString "__doc__") 166 .none, en P (.ofString "__package__") 167 .none, en P (.ofString "__loader__") 168 (.builtin "__main__.__loader__#opaque"), en P (.ofString "__spec__") 169 .none, en P (.ofString "__annotations__") 170 (.ref 6), en P (.ofString "__builtins__") 171 (.ref 4), en P (.ofString "__file__") 173 (.str (.ofString "/claim/cut.py") 172), en P (.ofString "__cached__") 174 .none, en P (.ofString "_wall") 193 (.ref 21), en P (.ofString "StowError") 215 (.ref 31), en P (.ofString "ShipError") 231 (.ref 44), en P (.ofString "CargoError") 247 (.ref 56)] 13), #[]⟩
noncomputable def o12_3 (P : Params) : Obj := ⟨.none, none, (.fields #[(.int 1 0), (.int 0 0), (.ref 20), (.int 5 0), (.int 0 0), (.ref 27), (.int 7 0), (.int 0 0), (.ref 40), (.int 9 0), (.int 0 0), (.ref 52)]), #[]⟩
noncomputable def o31_3 (P : Params) : Obj := ⟨(.type "type"), none, (.cls { name := (.ofString "StowError"), bases := [(.type "Exception")], mro := [(.ref 31), (.type "Exception"), (.type "BaseException"), (.type "object")], ns := 30, qualname := (.ofString "StowError"), hasDict := true, slotNames := [], subclasses := [(.ref 44), (.ref 56)], abstract := false, collection := none, hasDel := false }), #[(some (.ref 22)), none, (some (.str (.ofString "StowError") 196)), (some (.str (.ofString "StowError") 204)), (some (.builtin "Exception.__new__")), (some (.bool true))]⟩
noncomputable def o47_3 (P : Params) : Obj := ⟨(.type "tuple"), none, (.seq #[(.ref 31)] 0), #[]⟩
noncomputable def o48_3 (P : Params) : Obj := ⟨(.type "builtin_function_or_method"), none, (.fields #[(.builtin "type.__prepare__"), (.type "type")]), #[]⟩
noncomputable def o49_3 (P : Params) : Obj := ⟨(.type "dict"), none, (.dict #[en P (.ofString "__module__") 239 (.str (.ofString "bayplan.errors") 194), en P (.ofString "__qualname__") 241 (.str (.ofString "CargoError") 240), en P (.ofString "__firstlineno__") 243 (.int 9 242), en P (.ofString "__static_attributes__") 244 (.ref 54)] 4), #[]⟩
noncomputable def o50_3 (P : Params) : Obj := ⟨(.type "tuple"), none, (.seq #[] 0), #[]⟩
noncomputable def o51_3 (P : Params) : Obj := ⟨.none, none, (.fields #[]), #[]⟩
noncomputable def o52_3 (P : Params) : Obj := ⟨(.type "code"), none, (.fields #[(.str (.ofString "CargoError") 234), (.str (.ofString "CargoError") 235), (.str (.ofString "/claim/cut.py") 236), (.int 9 0), (.int 0 0), (.int 0 0), (.int 0 0), (.int 0 0), (.ref 50), (.bool false), (.int 181 0), (.ref 51), .none, .none, .none, .none, (.int 237 0), (.int 9 0), (.str (.ofString "/claim/cut.py") 238)]), #[]⟩
noncomputable def o53_3 (P : Params) : Obj := ⟨(.type "frame"), none, .plain, #[(some (.ref 52)), (some (.ref 3)), (some (.ref 49)), none, (some (.str (.ofString "bayplan.errors") 194)), none, (some (.ref 0))]⟩
noncomputable def o54_3 (P : Params) : Obj := ⟨(.type "tuple"), none, (.seq #[] 0), #[]⟩
noncomputable def o55_3 (P : Params) : Obj := ⟨(.type "dict"), none, (.dict #[en P (.ofString "__module__") 239 (.str (.ofString "bayplan.errors") 194), en P (.ofString "__firstlineno__") 243 (.int 9 242), en P (.ofString "__static_attributes__") 244 (.ref 54), en P (.ofString "__doc__") 245 .none] 2), #[]⟩
noncomputable def o56_3 (P : Params) : Obj := ⟨(.type "type"), none, (.cls { name := (.ofString "CargoError"), bases := [(.ref 31)], mro := [(.ref 56), (.ref 31), (.type "Exception"), (.type "BaseException"), (.type "object")], ns := 55, qualname := (.ofString "CargoError"), hasDict := true, slotNames := [], subclasses := [], abstract := false, collection := none, hasDel := false }), #[(some (.ref 47)), none, (some (.str (.ofString "CargoError") 232)), (some (.str (.ofString "CargoError") 240)), (some (.builtin "Exception.__new__")), (some (.bool true))]⟩
noncomputable def o57_3 (P : Params) : Obj := ⟨(.type "super"), none, (.fields #[(.ref 56), (.ref 56), (.ref 56)]), #[]⟩
noncomputable def o58_3 (P : Params) : Obj := ⟨(.type "builtin_function_or_method"), none, (.fields #[(.builtin "object.__init_subclass__"), (.ref 56)]), #[]⟩
noncomputable def T2 (P : Params) : BT := (.node (PySem.W.boot_o_0 P) (.node (PySem.W.boot_o_1 P) (.node (o3_3 P) (.node (PySem.W.boot_o_7 P) (.node (o15_2 P) (.node (o31_3 P) .nil .nil) (.node (o47_3 P) .nil .nil)) (.node (o23_2 P) (.node (o39_2 P) .nil .nil) (.node (o55_3 P) .nil .nil))) (.node (o11_0 P) (.node (o19_2 P) (.node (o35_2 P) .nil .nil) (.node (o51_3 P) .nil .nil)) (.node (o27_2 P) (.node (o43_2 P) .nil .nil) .nil))) (.node (PySem.W.boot_o_5 P) (.node (PySem.W.boot_o_9 P) (.node (o17_2 P) (.node (o33_2 P) .nil .nil) (.node (o49_3 P) .nil .nil)) (.node (o25_2 P) (.node (o41_2 P) .nil .nil) (.node (o57_3 P) .nil .nil))) (.node (o13_0 P) (.node (o21_2 P) (.node (o37_2 P) .nil .nil) (.node (o53_3 P) .nil .nil)) (.node (o29_2 P) (.node (o45_2 P) .nil .nil) .nil)))) (.node (o2_2 P) (.node (PySem.W.boot_o_4 P) (.node (PySem.W.boot_o_8 P) (.node (o16_2 P) (.node (o32_2 P) .nil .nil) (.node (o48_3 P) .nil .nil)) (.node (o24_2 P) (.node (o40_2 P) .nil .nil) (.node (o56_3 P) .nil .nil))) (.node (o12_3 P) (.node (o20_2 P) (.node (o36_2 P) .nil .nil) (.node (o52_3 P) .nil .nil)) (.node (o28_2 P) (.node (o44_2 P) .nil .nil) .nil))) (.node (PySem.W.boot_o_6 P) (.node (PySem.W.boot_o_10 P) (.node (o18_2 P) (.node (o34_2 P) .nil .nil) (.node (o50_3 P) .nil .nil)) (.node (o26_2 P) (.node (o42_2 P) .nil .nil) (.node (o58_3 P) .nil .nil))) (.node (o14_0 P) (.node (o22_2 P) (.node (o38_2 P) .nil .nil) (.node (o54_3 P) .nil .nil)) (.node (o30_2 P) (.node (o46_2 P) .nil .nil) .nil)))))
noncomputable def o3_4 (P : Params) : Obj := ⟨(.type "dict"), none, (.dict #[en P (.ofString "__name__") 165 (.str (.ofString "bayplan.cargo") 364), en P (.ofString "__doc__") 166 .none, en P (.ofString "__package__") 167 .none, en P (.ofString "__loader__") 168 (.builtin "__main__.__loader__#opaque"), en P (.ofString "__spec__") 169 .none, en P (.ofString "__annotations__") 170 (.ref 6), en P (.ofString "__builtins__") 171 (.ref 4), en P (.ofString "__file__") 173 (.str (.ofString "/claim/cut.py") 172), en P (.ofString "__cached__") 174 .none, en P (.ofString "_wall") 193 (.ref 21), en P (.ofString "StowError") 215 (.ref 31), en P (.ofString "ShipError") 231 (.ref 44), en P (.ofString "CargoError") 247 (.ref 56), en P (.ofString "Ship") 363 (.ref 134), en P (.ofString "SHORT") 367 (.int 20 366), en P (.ofString "LONG") 369 (.int 40 368), en P (.ofString "HEIGHTS") 376 (.ref 139), en P (.ofString "is_word") 383 (.ref 146)] 18), #[]⟩
noncomputable def o12_4 (P : Params) : Obj := ⟨.none, none, (.fields #[(.int 1 0), (.int 0 0), (.ref 20), (.int 5 0), (.int 0 0), (.ref 27), (.int 7 0), (.int 0 0), (.ref 40), (.int 9 0), (.int 0 0), (.ref 52), (.int 12 0), (.int 0 0), (.ref 64), (.int 69 0), (.int 0 0), (.ref 145)]), #[]⟩
noncomputable def o59_4 (P : Params) : Obj := ⟨(.type "tuple"), none, (.seq #[] 0), #[]⟩
noncomputable def o60_4 (P : Params) : Obj := ⟨(.type "builtin_function_or_method"), none, (.fields #[(.builtin "type.__prepare__"), (.type "type")]), #[]⟩
noncomputable def o61_4 (P : Params) : Obj := ⟨(.type "dict"), none, (.dict #[en P (.ofString "__module__") 257 (.str (.ofString "bayplan.ship") 248), en P (.ofString "__qualname__") 259 (.str (.ofString "Ship") 258), en P (.ofString "__firstlineno__") 261 (.int 12 260), en P (.ofString "__init__") 279 (.ref 75), en P (.ofString "check") 287 (.ref 82), en P (.ofString "has") 298 (.ref 89), en P (.ofString "is_open") 306 (.ref 96), en P (.ofString "floor") 315 (.ref 103), en P (.ofString "slots") 326 (.ref 110), en P (.ofString "stacks") 333 (.ref 117), en P (.ofString "room") 340 (.ref 124), en P (.ofString "has_plug") 348 (.ref 131), en P (.ofString "__static_attributes__") 356 (.ref 132)] 13), #[]⟩
noncomputable def o62_4 (P : Params) : Obj := ⟨(.type "tuple"), none, (.seq #[] 0), #[]⟩
noncomputable def o63_4 (P : Params) : Obj := ⟨.none, none, (.fields #[(.int 14 0), (.int 4 0), (.ref 74), (.int 34 0), (.int 4 0), (.ref 81), (.int 38 0), (.int 4 0), (.ref 88), (.int 42 0), (.int 4 0), (.ref 95), (.int 45 0), (.int 4 0), (.ref 102), (.int 48 0), (.int 4 0), (.ref 109), (.int 57 0), (.int 4 0), (.ref 116), (.int 60 0), (.int 4 0), (.ref 123), (.int 63 0), (.int 4 0), (.ref 130)]), #[]⟩
noncomputable def o64_4 (P : Params) : Obj := ⟨(.type "code"), none, (.fields #[(.str (.ofString "Ship") 252), (.str (.ofString "Ship") 253), (.str (.ofString "/claim/cut.py") 254), (.int 12 0), (.int 0 0), (.int 0 0), (.int 0 0), (.int 0 0), (.ref 62), (.bool false), (.int 181 0), (.ref 63), .none, .none, .none, .none, (.int 255 0), (.int 12 0), (.str (.ofString "/claim/cut.py") 256)]), #[]⟩
noncomputable def o65_4 (P : Params) : Obj := ⟨(.type "frame"), none, .plain, #[(some (.ref 64)), (some (.ref 3)), (some (.ref 61)), none, (some (.str (.ofString "bayplan.ship") 248)), none, (some (.ref 0))]⟩
noncomputable def o66_4 (P : Params) : Obj := ⟨(.type "tuple"), none, (.seq #[] 0), #[]⟩
noncomputable def o67_4 (P : Params) : Obj := ⟨(.type "tuple"), none, (.seq #[] 0), #[]⟩
noncomputable def o68_4 (P : Params) : Obj := ⟨(.type "tuple"), none, (.seq #[(.ref 66), (.ref 67)] 0), #[]⟩
noncomputable def o69_4 (P : Params) : Obj := ⟨(.type "tuple"), none, (.seq #[] 0), #[]⟩
noncomputable def o70_4 (P : Params) : Obj := ⟨.none, none, (.fields #[]), #[]⟩
noncomputable def o71_4 (P : Params) : Obj := ⟨(.type "tuple"), none, (.seq #[(.str (.ofString "self") 265), (.str (.ofString "pairs") 266), (.str (.ofString "rows") 267), (.str (.ofString "tiers") 268), (.str (.ofString "stack_weight") 269), (.str (.ofString "stack_height") 270), (.str (.ofString "plugs") 271), (.str (.ofString "closed") 272), (.str (.ofString "slot") 273), (.str (.ofString "bay") 274), (.str (.ofString "row") 275), (.str (.ofString "tier") 276)] 0), #[]⟩
noncomputable def o72_4 (P : Params) : Obj := ⟨(.type "tuple"), none, (.seq #[] 0), #[]⟩
noncomputable def o73_4 (P : Params) : Obj := ⟨.none, none, (.func { name := (.ofString "__init__"), qualname := (.ofString "Ship.__init__"), params := (sar (nth (inn (nth bd 6)) 0)), body := (.stmts (inn (nth (inn (nth bd 6)) 0))), scope := (ssc (nth (inn (nth bd 6)) 0)), globals := 0, closure := [], defaults := .none, kwdefaults := .none, doc := .none, pyModule := .none, annotations := none, code := .none, closureTuple := .none, builtins := 0 }), #[]⟩
noncomputable def o74_4 (P : Params) : Obj := ⟨(.type "code"), none, (.fields #[(.str (.ofString "__init__") 262), (.str (.ofString "Ship.__init__") 263), (.str (.ofString "/claim/cut.py") 264), (.int 14 0), (.int 8 0), (.int 0 0), (.int 0 0), (.int 3 0), (.ref 69), (.bool true), (.int 181 0), (.ref 70), .none, (.ref 71), (.ref 72), (.ref 73), (.int 277 0), (.int 14 0), (.str (.ofString "/claim/cut.py") 278)]), #[]⟩
noncomputable def o75_4 (P : Params) : Obj := ⟨(.type "function"), none, (.func { name := (.ofString "__init__"), qualname := (.ofString "Ship.__init__"), params := (sar (nth (inn (nth bd 6)) 0)), body := (.stmts (inn (nth (inn (nth bd 6)) 0))), scope := (ssc (nth (inn (nth bd 6)) 0)), globals := 3, closure := [], defaults := (.ref 68), kwdefaults := .none, doc := .none, pyModule := (.str (.ofString "bayplan.ship") 248), annotations := none, code := (.ref 74), closureTuple := .none, builtins := 0 }), #[]⟩
noncomputable def o76_4 (P : Params) : Obj := ⟨(.type "tuple"), none, (.seq #[] 0), #[]⟩
noncomputable def o77_4 (P : Params) : Obj := ⟨.none, none, (.fields #[]), #[]⟩
noncomputable def o78_4 (P : Params) : Obj := ⟨(.type "tuple"), none, (.seq #[(.str (.ofString "self") 283), (.str (.ofString "slot") 284)] 0), #[]⟩
noncomputable def o79_4 (P : Params) : Obj := ⟨(.type "tuple"), none, (.seq #[] 0), #[]⟩
noncomputable def o80_4 (P : Params) : Obj := ⟨.none, none, (.func { name := (.ofString "check"), qualname := (.ofString "Ship.check"), params := (sar (nth (inn (nth bd 6)) 1)), body := (.stmts (inn (nth (inn (nth bd 6)) 1))), scope := (ssc (nth (inn (nth bd 6)) 1)), globals := 0, closure := [], defaults := .none, kwdefaults := .none, doc := .none, pyModule := .none, annotations := none, code := .none, closureTuple := .none, builtins := 0 }), #[]⟩
noncomputable def o81_4 (P : Params) : Obj := ⟨(.type "code"), none, (.fields #[(.str (.ofString "check") 280), (.str (.ofString "Ship.check") 281), (.str (.ofString "/claim/cut.py") 282), (.int 34 0), (.int 2 0), (.int 0 0), (.int 0 0), (.int 3 0), (.ref 76), (.bool true), (.int 181 0), (.ref 77), .none, (.ref 78), (.ref 79), (.ref 80), (.int 285 0), (.int 34 0), (.str (.ofString "/claim/cut.py") 286)]), #[]⟩
noncomputable def o82_4 (P : Params) : Obj := ⟨(.type "function"), none, (.func { name := (.ofString "check"), qualname := (.ofString "Ship.check"), params := (sar (nth (inn (nth bd 6)) 1)), body := (.stmts (inn (nth (inn (nth bd 6)) 1))), scope := (ssc (nth (inn (nth bd 6)) 1)), globals := 3, closure := [], defaults := .none, kwdefaults := .none, doc := .none, pyModule := (.str (.ofString "bayplan.ship") 248), annotations := none, code := (.ref 81), closureTuple := .none, builtins := 0 }), #[]⟩
noncomputable def o83_4 (P : Params) : Obj := ⟨(.type "tuple"), none, (.seq #[] 0), #[]⟩
noncomputable def o84_4 (P : Params) : Obj := ⟨.none, none, (.fields #[]), #[]⟩
noncomputable def o85_4 (P : Params) : Obj := ⟨(.type "tuple"), none, (.seq #[(.str (.ofString "self") 291), (.str (.ofString "slot") 292), (.str (.ofString "bay") 293), (.str (.ofString "row") 294), (.str (.ofString "tier") 295)] 0), #[]⟩
noncomputable def o86_4 (P : Params) : Obj := ⟨(.type "tuple"), none, (.seq #[] 0), #[]⟩
noncomputable def o87_4 (P : Params) : Obj := ⟨.none, none, (.func { name := (.ofString "has"), qualname := (.ofString "Ship.has"), params := (sar (nth (inn (nth bd 6)) 2)), body := (.stmts (inn (nth (inn (nth bd 6)) 2))), scope := (ssc (nth (inn (nth bd 6)) 2)), globals := 0, closure := [], defaults := .none, kwdefaults := .none, doc := .none, pyModule := .none, annotations := none, code := .none, closureTuple := .none, builtins := 0 }), #[]⟩
noncomputable def o88_4 (P : Params) : Obj := ⟨(.type "code"), none, (.fields #[(.str (.ofString "has") 288), (.str (.ofString "Ship.has") 289), (.str (.ofString "/claim/cut.py") 290), (.int 38 0), (.int 2 0), (.int 0 0), (.int 0 0), (.int 3 0), (.ref 83), (.bool true), (.int 181 0), (.ref 84), .none, (.ref 85), (.ref 86), (.ref 87), (.int 296 0), (.int 38 0), (.str (.ofString "/claim/cut.py") 297)]), #[]⟩
noncomputable def o89_4 (P : Params) : Obj := ⟨(.type "function"), none, (.func { name := (.ofString "has"), qualname := (.ofString "Ship.has"), params := (sar (nth (inn (nth bd 6)) 2)), body := (.stmts (inn (nth (inn (nth bd 6)) 2))), scope := (ssc (nth (inn (nth bd 6)) 2)), globals := 3, closure := [], defaults := .none, kwdefaults := .none, doc := .none, pyModule := (.str (.ofString "bayplan.ship") 248), annotations := none, code := (.ref 88), closureTuple := .none, builtins := 0 }), #[]⟩
noncomputable def o90_4 (P : Params) : Obj := ⟨(.type "tuple"), none, (.seq #[] 0), #[]⟩
noncomputable def o91_4 (P : Params) : Obj := ⟨.none, none, (.fields #[]), #[]⟩
noncomputable def o92_4 (P : Params) : Obj := ⟨(.type "tuple"), none, (.seq #[(.str (.ofString "self") 302), (.str (.ofString "slot") 303)] 0), #[]⟩
noncomputable def o93_4 (P : Params) : Obj := ⟨(.type "tuple"), none, (.seq #[] 0), #[]⟩
noncomputable def o94_4 (P : Params) : Obj := ⟨.none, none, (.func { name := (.ofString "is_open"), qualname := (.ofString "Ship.is_open"), params := (sar (nth (inn (nth bd 6)) 3)), body := (.stmts (inn (nth (inn (nth bd 6)) 3))), scope := (ssc (nth (inn (nth bd 6)) 3)), globals := 0, closure := [], defaults := .none, kwdefaults := .none, doc := .none, pyModule := .none, annotations := none, code := .none, closureTuple := .none, builtins := 0 }), #[]⟩
noncomputable def o95_4 (P : Params) : Obj := ⟨(.type "code"), none, (.fields #[(.str (.ofString "is_open") 299), (.str (.ofString "Ship.is_open") 300), (.str (.ofString "/claim/cut.py") 301), (.int 42 0), (.int 2 0), (.int 0 0), (.int 0 0), (.int 3 0), (.ref 90), (.bool true), (.int 181 0), (.ref 91), .none, (.ref 92), (.ref 93), (.ref 94), (.int 304 0), (.int 42 0), (.str (.ofString "/claim/cut.py") 305)]), #[]⟩
noncomputable def o96_4 (P : Params) : Obj := ⟨(.type "function"), none, (.func { name := (.ofString "is_open"), qualname := (.ofString "Ship.is_open"), params := (sar (nth (inn (nth bd 6)) 3)), body := (.stmts (inn (nth (inn (nth bd 6)) 3))), scope := (ssc (nth (inn (nth bd 6)) 3)), globals := 3, closure := [], defaults := .none, kwdefaults := .none, doc := .none, pyModule := (.str (.ofString "bayplan.ship") 248), annotations := none, code := (.ref 95), closureTuple := .none, builtins := 0 }), #[]⟩
noncomputable def o97_4 (P : Params) : Obj := ⟨(.type "tuple"), none, (.seq #[] 0), #[]⟩
noncomputable def o98_4 (P : Params) : Obj := ⟨.none, none, (.fields #[]), #[]⟩
noncomputable def o99_4 (P : Params) : Obj := ⟨(.type "tuple"), none, (.seq #[(.str (.ofString "self") 310), (.str (.ofString "bay") 311), (.str (.ofString "row") 312)] 0), #[]⟩
noncomputable def o100_4 (P : Params) : Obj := ⟨(.type "tuple"), none, (.seq #[] 0), #[]⟩
noncomputable def o101_4 (P : Params) : Obj := ⟨.none, none, (.func { name := (.ofString "floor"), qualname := (.ofString "Ship.floor"), params := (sar (nth (inn (nth bd 6)) 4)), body := (.stmts (inn (nth (inn (nth bd 6)) 4))), scope := (ssc (nth (inn (nth bd 6)) 4)), globals := 0, closure := [], defaults := .none, kwdefaults := .none, doc := .none, pyModule := .none, annotations := none, code := .none, closureTuple := .none, builtins := 0 }), #[]⟩
noncomputable def o102_4 (P : Params) : Obj := ⟨(.type "code"), none, (.fields #[(.str (.ofString "floor") 307), (.str (.ofString "Ship.floor") 308), (.str (.ofString "/claim/cut.py") 309), (.int 45 0), (.int 3 0), (.int 0 0), (.int 0 0), (.int 3 0), (.ref 97), (.bool true), (.int 181 0), (.ref 98), .none, (.ref 99), (.ref 100), (.ref 101), (.int 313 0), (.int 45 0), (.str (.ofString "/claim/cut.py") 314)]), #[]⟩
noncomputable def o103_4 (P : Params) : Obj := ⟨(.type "function"), none, (.func { name := (.ofString "floor"), qualname := (.ofString "Ship.floor"), params := (sar (nth (inn (nth bd 6)) 4)), body := (.stmts (inn (nth (inn (nth bd 6)) 4))), scope := (ssc (nth (inn (nth bd 6)) 4)), globals := 3, closure := [], defaults := .none, kwdefaults := .none, doc := .none, pyModule := (.str (.ofString "bayplan.ship") 248), annotations := none, code := (.ref 102), closureTuple := .none, builtins := 0 }), #[]⟩
noncomputable def o104_4 (P : Params) : Obj := ⟨(.type "tuple"), none, (.seq #[] 0), #[]⟩
noncomputable def o105_4 (P : Params) : Obj := ⟨.none, none, (.fields #[]), #[]⟩
noncomputable def o106_4 (P : Params) : Obj := ⟨(.type "tuple"), none, (.seq #[(.str (.ofString "self") 319), (.str (.ofString "found") 320), (.str (.ofString "bay") 321), (.str (.ofString "row") 322), (.str (.ofString "tier") 323)] 0), #[]⟩
noncomputable def o107_4 (P : Params) : Obj := ⟨(.type "tuple"), none, (.seq #[] 0), #[]⟩
noncomputable def o108_4 (P : Params) : Obj := ⟨.none, none, (.func { name := (.ofString "slots"), qualname := (.ofString "Ship.slots"), params := (sar (nth (inn (nth bd 6)) 5)), body := (.stmts (inn (nth (inn (nth bd 6)) 5))), scope := (ssc (nth (inn (nth bd 6)) 5)), globals := 0, closure := [], defaults := .none, kwdefaults := .none, doc := .none, pyModule := .none, annotations := none, code := .none, closureTuple := .none, builtins := 0 }), #[]⟩
noncomputable def o109_4 (P : Params) : Obj := ⟨(.type "code"), none, (.fields #[(.str (.ofString "slots") 316), (.str (.ofString "Ship.slots") 317), (.str (.ofString "/claim/cut.py") 318), (.int 48 0), (.int 1 0), (.int 0 0), (.int 0 0), (.int 3 0), (.ref 104), (.bool true), (.int 181 0), (.ref 105), .none, (.ref 106), (.ref 107), (.ref 108), (.int 324 0), (.int 48 0), (.str (.ofString "/claim/cut.py") 325)]), #[]⟩
noncomputable def o110_4 (P : Params) : Obj := ⟨(.type "function"), none, (.func { name := (.ofString "slots"), qualname := (.ofString "Ship.slots"), params := (sar (nth (inn (nth bd 6)) 5)), body := (.stmts (inn (nth (inn (nth bd 6)) 5))), scope := (ssc (nth (inn (nth bd 6)) 5)), globals := 3, closure := [], defaults := .none, kwdefaults := .none, doc := .none, pyModule := (.str (.ofString "bayplan.ship") 248), annotations := none, code := (.ref 109), closureTuple := .none, builtins := 0 }), #[]⟩
noncomputable def o111_4 (P : Params) : Obj := ⟨(.type "tuple"), none, (.seq #[] 0), #[]⟩
noncomputable def o112_4 (P : Params) : Obj := ⟨.none, none, (.fields #[]), #[]⟩
noncomputable def o113_4 (P : Params) : Obj := ⟨(.type "tuple"), none, (.seq #[(.str (.ofString "self") 330)] 0), #[]⟩
noncomputable def o114_4 (P : Params) : Obj := ⟨(.type "tuple"), none, (.seq #[] 0), #[]⟩
noncomputable def o115_4 (P : Params) : Obj := ⟨.none, none, (.func { name := (.ofString "stacks"), qualname := (.ofString "Ship.stacks"), params := (sar (nth (inn (nth bd 6)) 6)), body := (.stmts (inn (nth (inn (nth bd 6)) 6))), scope := (ssc (nth (inn (nth bd 16)) 7)), globals := 0, closure := [], defaults := .none, kwdefaults := .none, doc := .none, pyModule := .none, annotations := none, code := .none, closureTuple := .none, builtins := 0 }), #[]⟩
noncomputable def o116_4 (P : Params) : Obj := ⟨(.type "code"), none, (.fields #[(.str (.ofString "stacks") 327), (.str (.ofString "Ship.stacks") 328), (.str (.ofString "/claim/cut.py") 329), (.int 57 0), (.int 1 0), (.int 0 0), (.int 0 0), (.int 3 0), (.ref 111), (.bool true), (.int 181 0), (.ref 112), .none, (.ref 113), (.ref 114), (.ref 115), (.int 331 0), (.int 57 0), (.str (.ofString "/claim/cut.py") 332)]), #[]⟩
noncomputable def o117_4 (P : Params) : Obj := ⟨(.type "function"), none, (.func { name := (.ofString "stacks"), qualname := (.ofString "Ship.stacks"), params := (sar (nth (inn (nth bd 6)) 6)), body := (.stmts (inn (nth (inn (nth bd 6)) 6))), scope := (ssc (nth (inn (nth bd 16)) 7)), globals := 3, closure := [], defaults := .none, kwdefaults := .none, doc := .none, pyModule := (.str (.ofString "bayplan.ship") 248), annotations := none, code := (.ref 116), closureTuple := .none, builtins := 0 }), #[]⟩
noncomputable def o118_4 (P : Params) : Obj := ⟨(.type "tuple"), none, (.seq #[] 0), #[]⟩
noncomputable def o119_4 (P : Params) : Obj := ⟨.none, none, (.fields #[]), #[]⟩
noncomputable def o120_4 (P : Params) : Obj := ⟨(.type "tuple"), none, (.seq #[(.str (.ofString "self") 337)] 0), #[]⟩
noncomputable def o121_4 (P : Params) : Obj := ⟨(.type "tuple"), none, (.seq #[] 0), #[]⟩
noncomputable def o122_4 (P : Params) : Obj := ⟨.none, none, (.func { name := (.ofString "room"), qualname := (.ofString "Ship.room"), params := (sar (nth (inn (nth bd 6)) 7)), body := (.stmts (inn (nth (inn (nth bd 6)) 7))), scope := (ssc (nth (inn (nth bd 16)) 1)), globals := 0, closure := [], defaults := .none, kwdefaults := .none, doc := .none, pyModule := .none, annotations := none, code := .none, closureTuple := .none, builtins := 0 }), #[]⟩
noncomputable def o123_4 (P : Params) : Obj := ⟨(.type "code"), none, (.fields #[(.str (.ofString "room") 334), (.str (.ofString "Ship.room") 335), (.str (.ofString "/claim/cut.py") 336), (.int 60 0), (.int 1 0), (.int 0 0), (.int 0 0), (.int 3 0), (.ref 118), (.bool true), (.int 181 0), (.ref 119), .none, (.ref 120), (.ref 121), (.ref 122), (.int 338 0), (.int 60 0), (.str (.ofString "/claim/cut.py") 339)]), #[]⟩
noncomputable def o124_4 (P : Params) : Obj := ⟨(.type "function"), none, (.func { name := (.ofString "room"), qualname := (.ofString "Ship.room"), params := (sar (nth (inn (nth bd 6)) 7)), body := (.stmts (inn (nth (inn (nth bd 6)) 7))), scope := (ssc (nth (inn (nth bd 16)) 1)), globals := 3, closure := [], defaults := .none, kwdefaults := .none, doc := .none, pyModule := (.str (.ofString "bayplan.ship") 248), annotations := none, code := (.ref 123), closureTuple := .none, builtins := 0 }), #[]⟩
noncomputable def o125_4 (P : Params) : Obj := ⟨(.type "tuple"), none, (.seq #[] 0), #[]⟩
noncomputable def o126_4 (P : Params) : Obj := ⟨.none, none, (.fields #[]), #[]⟩
noncomputable def o127_4 (P : Params) : Obj := ⟨(.type "tuple"), none, (.seq #[(.str (.ofString "self") 344), (.str (.ofString "slots") 345)] 0), #[]⟩
noncomputable def o128_4 (P : Params) : Obj := ⟨(.type "tuple"), none, (.seq #[] 0), #[]⟩
noncomputable def o129_4 (P : Params) : Obj := ⟨.none, none, (.func { name := (.ofString "has_plug"), qualname := (.ofString "Ship.has_plug"), params := (sar (nth (inn (nth bd 6)) 8)), body := (.stmts (inn (nth (inn (nth bd 6)) 8))), scope := (ssc (nth (inn (nth bd 6)) 8)), globals := 0, closure := [], defaults := .none, kwdefaults := .none, doc := .none, pyModule := .none, annotations := none, code := .none, closureTuple := .none, builtins := 0 }), #[]⟩
noncomputable def o130_4 (P : Params) : Obj := ⟨(.type "code"), none, (.fields #[(.str (.ofString "has_plug") 341), (.str (.ofString "Ship.has_plug") 342), (.str (.ofString "/claim/cut.py") 343), (.int 63 0), (.int 2 0), (.int 0 0), (.int 0 0), (.int 3 0), (.ref 125), (.bool true), (.int 181 0), (.ref 126), .none, (.ref 127), (.ref 128), (.ref 129), (.int 346 0), (.int 63 0), (.str (.ofString "/claim/cut.py") 347)]), #[]⟩
noncomputable def o131_4 (P : Params) : Obj := ⟨(.type "function"), none, (.func { name := (.ofString "has_plug"), qualname := (.ofString "Ship.has_plug"), params := (sar (nth (inn (nth bd 6)) 8)), body := (.stmts (inn (nth (inn (nth bd 6)) 8))), scope := (ssc (nth (inn (nth bd 6)) 8)), globals := 3, closure := [], defaults := .none, kwdefaults := .none, doc := .none, pyModule := (.str (.ofString "bayplan.ship") 248), annotations := none, code := (.ref 130), closureTuple := .none, builtins := 0 }), #[]⟩
noncomputable def o132_4 (P : Params) : Obj := ⟨(.type "tuple"), none, (.seq #[(.str (.ofString "bays") 349), (.str (.ofString "closed") 350), (.str (.ofString "plugs") 351), (.str (.ofString "rows") 352), (.str (.ofString "stack_height") 353), (.str (.ofString "stack_weight") 354), (.str (.ofString "tiers") 355)] 0), #[]⟩
noncomputable def o133_4 (P : Params) : Obj := ⟨(.type "dict"), none, (.dict #[en P (.ofString "__module__") 257 (.str (.ofString "bayplan.ship") 248), en P (.ofString "__firstlineno__") 261 (.int 12 260), en P (.ofString "__init__") 279 (.ref 75), en P (.ofString "check") 287 (.ref 82), en P (.ofString "has") 298 (.ref 89), en P (.ofString "is_open") 306 (.ref 96), en P (.ofString "floor") 315 (.ref 103), en P (.ofString "slots") 326 (.ref 110), en P (.ofString "stacks") 333 (.ref 117), en P (.ofString "room") 340 (.ref 124), en P (.ofString "has_plug") 348 (.ref 131), en P (.ofString "__static_attributes__") 356 (.ref 132), en P (.ofString "__dict__") 358 (.ref 135), en P (.ofString "__weakref__") 360 (.ref 136), en P (.ofString "__doc__") 361 .none] 4), #[]⟩
noncomputable def o134_4 (P : Params) : Obj := ⟨(.type "type"), none, (.cls { name := (.ofString "Ship"), bases := [(.type "object")], mro := [(.ref 134), (.type "object")], ns := 133, qualname := (.ofString "Ship"), hasDict := true, slotNames := [], subclasses := [], abstract := false, collection := none, hasDel := false }), #[none, none, (some (.str (.ofString "Ship") 250)), (some (.str (.ofString "Ship") 258)), (some (.builtin "object.__new__")), (some (.bool true))]⟩
noncomputable def o135_4 (P : Params) : Obj := ⟨(.type "getset_descriptor"), none, (.fields #[(.str (.ofString "__dict__") 357), (.ref 134), (.builtin "function.__dict__"), (.builtin "function.__dict__#set")]), #[]⟩
noncomputable def o136_4 (P : Params) : Obj := ⟨(.type "getset_descriptor"), none, (.fields #[(.str (.ofString "__weakref__") 359), (.ref 134), (.builtin "ExceptionGroup.__weakref__"), .none]), #[]⟩
noncomputable def o137_4 (P : Params) : Obj := ⟨(.type "super"), none, (.fields #[(.ref 134), (.ref 134), (.ref 134)]), #[]⟩
noncomputable def o138_4 (P : Params) : Obj := ⟨(.type "builtin_function_or_method"), none, (.fields #[(.builtin "object.__init_subclass__"), (.ref 134)]), #[]⟩
noncomputable def o139_4 (P : Params) : Obj := ⟨(.type "dict"), none, (.dict #[en P (.ofString "plain") 370 (.int 26 371), en P (.ofString "high") 372 (.int 29 373)] 2), #[]⟩
noncomputable def o140_4 (P : Params) : Obj := ⟨(.type "tuple"), none, (.seq #[] 0), #[]⟩
noncomputable def o141_4 (P : Params) : Obj := ⟨.none, none, (.fields #[]), #[]⟩
noncomputable def o142_4 (P : Params) : Obj := ⟨(.type "tuple"), none, (.seq #[(.str (.ofString "name") 380)] 0), #[]⟩
noncomputable def o143_4 (P : Params) : Obj := ⟨(.type "tuple"), none, (.seq #[] 0), #[]⟩
noncomputable def o144_4 (P : Params) : Obj := ⟨.none, none, (.func { name := (.ofString "is_word"), qualname := (.ofString "is_word"), params := (sar (nth bd 11)), body := (.stmts (inn (nth bd 11))), scope := (ssc (nth bd 11)), globals := 0, closure := [], defaults := .none, kwdefaults := .none, doc := .none, pyModule := .none, annotations := none, code := .none, closureTuple := .none, builtins := 0 }), #[]⟩
noncomputable def o145_4 (P : Params) : Obj := ⟨(.type "code"), none, (.fields #[(.str (.ofString "is_word") 377), (.str (.ofString "is_word") 378), (.str (.ofString "/claim/cut.py") 379), (.int 69 0), (.int 1 0), (.int 0 0), (.int 0 0), (.int 3 0), (.ref 140), (.bool true), (.int 181 0), (.ref 141), .none, (.ref 142), (.ref 143), (.ref 144), (.int 381 0), (.int 69 0), (.str (.ofString "/claim/cut.py") 382)]), #[]⟩
noncomputable def o146_4 (P : Params) : Obj := ⟨(.type "function"), none, (.func { name := (.ofString "is_word"), qualname := (.ofString "is_word"), params := (sar (nth bd 11)), body := (.stmts (inn (nth bd 11))), scope := (ssc (nth bd 11)), globals := 3, closure := [], defaults := .none, kwdefaults := .none, doc := .none, pyModule := (.str (.ofString "bayplan.cargo") 364), annotations := none, code := (.ref 145), closureTuple := .none, builtins := 0 }), #[]⟩
noncomputable def T3 (P : Params) : BT := (.node (PySem.W.boot_o_0 P) (.node (PySem.W.boot_o_1 P) (.node (o3_4 P) (.node (PySem.W.boot_o_7 P) (.node (o15_2 P) (.node (o31_3 P) (.node (o63_4 P) (.node (o127_4 P) .nil .nil) .nil) (.node (o95_4 P) .nil .nil)) (.node (o47_3 P) (.node (o79_4 P) (.node (o143_4 P) .nil .nil) .nil) (.node (o111_4 P) .nil .nil))) (.node (o23_2 P) (.node (o39_2 P) (.node (o71_4 P) (.node (o135_4 P) .nil .nil) .nil) (.node (o103_4 P) .nil .nil)) (.node (o55_3 P) (.node (o87_4 P) .nil .nil) (.node (o119_4 P) .nil .nil)))) (.node (o11_0 P) (.node (o19_2 P) (.node (o35_2 P) (.node (o67_4 P) (.node (o131_4 P) .nil .nil) .nil) (.node (o99_4 P) .nil .nil)) (.node (o51_3 P) (.node (o83_4 P) .nil .nil) (.node (o115_4 P) .nil .nil))) (.node (o27_2 P) (.node (o43_2 P) (.node (o75_4 P) (.node (o139_4 P) .nil .nil) .nil) (.node (o107_4 P) .nil .nil)) (.node (o59_4 P) (.node (o91_4 P) .nil .nil) (.node (o123_4 P) .nil .nil))))) (.node (PySem.W.boot_o_5 P) (.node (PySem.W.boot_o_9 P) (.node (o17_2 P) (.node (o33_2 P) (.node (o65_4 P) (.node (o129_4 P) .nil .nil) .nil) (.node (o97_4 P) .nil .nil)) (.node (o49_3 P) (.node (o81_4 P) (.node (o145_4 P) .nil .nil) .nil) (.node (o113_4 P) .nil .nil))) (.node (o25_2 P) (.node (o41_2 P) (.node (o73_4 P) (.node (o137_4 P) .nil .nil) .nil) (.node (o105_4 P) .nil .nil)) (.node (o57_3 P) (.node (o89_4 P) .nil .nil) (.node (o121_4 P) .nil .nil)))) (.node (o13_0 P) (.node (o21_2 P) (.node (o37_2 P) (.node (o69_4 P) (.node (o133_4 P) .nil .nil) .nil) (.node (o101_4 P) .nil .nil)) (.node (o53_3 P) (.node (o85_4 P) .nil .nil) (.node (o117_4 P) .nil .nil))) (.node (o29_2 P) (.node (o45_2 P) (.node (o77_4 P) (.node (o141_4 P) .nil .nil) .nil) (.node (o109_4 P) .nil .nil)) (.node (o61_4 P) (.node (o93_4 P) .nil .nil) (.node (o125_4 P) .nil .nil)))))) (.node (o2_2 P) (.node (PySem.W.boot_o_4 P) (.node (PySem.W.boot_o_8 P) (.node (o16_2 P) (.node (o32_2 P) (.node (o64_4 P) (.node (o128_4 P) .nil .nil) .nil) (.node (o96_4 P) .nil .nil)) (.node (o48_3 P) (.node (o80_4 P) (.node (o144_4 P) .nil .nil) .nil) (.node (o112_4 P) .nil .nil))) (.node (o24_2 P) (.node (o40_2 P) (.node (o72_4 P) (.node (o136_4 P) .nil .nil) .nil) (.node (o104_4 P) .nil .nil)) (.node (o56_3 P) (.node (o88_4 P) .nil .nil) (.node (o120_4 P) .nil .nil)))) (.node (o12_4 P) (.node (o20_2 P) (.node (o36_2 P) (.node (o68_4 P) (.node (o132_4 P) .nil .nil) .nil) (.node (o100_4 P) .nil .nil)) (.node (o52_3 P) (.node (o84_4 P) .nil .nil) (.node (o116_4 P) .nil .nil))) (.node (o28_2 P) (.node (o44_2 P) (.node (o76_4 P) (.node (o140_4 P) .nil .nil) .nil) (.node (o108_4 P) .nil .nil)) (.node (o60_4 P) (.node (o92_4 P) .nil .nil) (.node (o124_4 P) .nil .nil))))) (.node (PySem.W.boot_o_6 P) (.node (PySem.W.boot_o_10 P) (.node (o18_2 P) (.node (o34_2 P) (.node (o66_4 P) (.node (o130_4 P) .nil .nil) .nil) (.node (o98_4 P) .nil .nil)) (.node (o50_3 P) (.node (o82_4 P) (.node (o146_4 P) .nil .nil) .nil) (.node (o114_4 P) .nil .nil))) (.node (o26_2 P) (.node (o42_2 P) (.node (o74_4 P) (.node (o138_4 P) .nil .nil) .nil) (.node (o106_4 P) .nil .nil)) (.node (o58_3 P) (.node (o90_4 P) .nil .nil) (.node (o122_4 P) .nil .nil)))) (.node (o14_0 P) (.node (o22_2 P) (.node (o38_2 P) (.node (o70_4 P) (.node (o134_4 P) .nil .nil) .nil) (.node (o102_4 P) .nil .nil)) (.node (o54_3 P) (.node (o86_4 P) .nil .nil) (.node (o118_4 P) .nil .nil))) (.node (o30_2 P) (.node (o46_2 P) (.node (o78_4 P) (.node (o142_4 P) .nil .nil) .nil) (.node (o110_4 P) .nil .nil)) (.node (o62_4 P) (.node (o94_4 P) .nil .nil) (.node (o126_4 P) .nil .nil)))))))
noncomputable def o3_5 (P : Params) : Obj := ⟨(.type "dict"), none, (.dict #[en P (.ofString "__name__") 165 (.str (.ofString "bayplan.cargo") 364), en P (.ofString "__doc__") 166 .none, en P (.ofString "__package__") 167 .none, en P (.ofString "__loader__") 168 (.builtin "__main__.__loader__#opaque"), en P (.ofString "__spec__") 169 .none, en P (.ofString "__annotations__") 170 (.ref 6), en P (.ofString "__builtins__") 171 (.ref 4), en P (.ofString "__file__") 173 (.str (.ofString "/claim/cut.py") 172), en P (.ofString "__cached__") 174 .none, en P (.ofString "_wall") 193 (.ref 21), en P (.ofString "StowError") 215 (.ref 31), en P (.ofString "ShipError") 231 (.ref 44), en P (.ofString "CargoError") 247 (.ref 56), en P (.ofString "Ship") 363 (.ref 134), en P (.ofString "SHORT") 367 (.int 20 366), en P (.ofString "LONG") 369 (.int 40 368), en P (.ofString "HEIGHTS") 376 (.ref 139), en P (.ofString "is_word") 383 (.ref 146), en P (.ofString "Container") 499 (.ref 227)] 19), #[]⟩
noncomputable def o12_5 (P : Params) : Obj := ⟨.none, none, (.fields #[(.int 1 0), (.int 0 0), (.ref 20), (.int 5 0), (.int 0 0), (.ref 27), (.int 7 0), (.int 0 0), (.ref 40), (.int 9 0), (.int 0 0), (.ref 52), (.int 12 0), (.int 0 0), (.ref 64), (.int 69 0), (.int 0 0), (.ref 145), (.int 71 0), (.int 0 0), (.ref 152)]), #[]⟩
noncomputable def o147_5 (P : Params) : Obj := ⟨(.type "tuple"), none, (.seq #[] 0), #[]⟩
noncomputable def o148_5 (P : Params) : Obj := ⟨(.type "builtin_function_or_method"), none, (.fields #[(.builtin "type.__prepare__"), (.type "type")]), #[]⟩
noncomputable def o149_5 (P : Params) : Obj := ⟨(.type "dict"), none, (.dict #[en P (.ofString "__module__") 391 (.str (.ofString "bayplan.cargo") 364), en P (.ofString "__qualname__") 393 (.str (.ofString "Container") 392), en P (.ofString "__firstlineno__") 395 (.int 71 394), en P (.ofString "__init__") 413 (.ref 161), en P (.ofString "__repr__") 420 (.ref 168), en P (.ofString "key") 427 (.ref 175), en P (.ofString "__eq__") 435 (.ref 182), en P (.ofString "__hash__") 442 (.ref 189), en P (.ofString "height") 449 (.ref 196), en P (.ofString "is_long") 456 (.ref 203), en P (.ofString "slots") 468 (.ref 210), en P (.ofString "weight_on") 475 (.ref 217), en P (.ofString "is_on_leg") 483 (.ref 224), en P (.ofString "__static_attributes__") 492 (.ref 225)] 14), #[]⟩
noncomputable def o150_5 (P : Params) : Obj := ⟨(.type "tuple"), none, (.seq #[] 0), #[]⟩
noncomputable def o151_5 (P : Params) : Obj := ⟨.none, none, (.fields #[(.int 73 0), (.int 4 0), (.ref 160), (.int 95 0), (.int 4 0), (.ref 167), (.int 98 0), (.int 4 0), (.ref 174), (.int 101 0), (.int 4 0), (.ref 181), (.int 106 0), (.int 4 0), (.ref 188), (.int 109 0), (.int 4 0), (.ref 195), (.int 112 0), (.int 4 0), (.ref 202), (.int 115 0), (.int 4 0), (.ref 209), (.int 122 0), (.int 4 0), (.ref 216), (.int 125 0), (.int 4 0), (.ref 223)]), #[]⟩
noncomputable def o152_5 (P : Params) : Obj := ⟨(.type "code"), none, (.fields #[(.str (.ofString "Container") 386), (.str (.ofString "Container") 387), (.str (.ofString "/claim/cut.py") 388), (.int 71 0), (.int 0 0), (.int 0 0), (.int 0 0), (.int 0 0), (.ref 150), (.bool false), (.int 181 0), (.ref 151), .none, .none, .none, .none, (.int 389 0), (.int 71 0), (.str (.ofString "/claim/cut.py") 390)]), #[]⟩
noncomputable def o153_5 (P : Params) : Obj := ⟨(.type "frame"), none, .plain, #[(some (.ref 152)), (some (.ref 3)), (some (.ref 149)), none, (some (.str (.ofString "bayplan.cargo") 364)), none, (some (.ref 0))]⟩
noncomputable def o154_5 (P : Params) : Obj := ⟨(.type "tuple"), none, (.seq #[(.int 20 366), (.int 10 396), (.str (.ofString "plain") 397), (.bool false), (.int 0 398)] 0), #[]⟩
noncomputable def o155_5 (P : Params) : Obj := ⟨(.type "tuple"), none, (.seq #[] 0), #[]⟩
noncomputable def o156_5 (P : Params) : Obj := ⟨.none, none, (.fields #[]), #[]⟩
noncomputable def o157_5 (P : Params) : Obj := ⟨(.type "tuple"), none, (.seq #[(.str (.ofString "self") 402), (.str (.ofString "name") 403), (.str (.ofString "load") 404), (.str (.ofString "discharge") 405), (.str (.ofString "length") 406), (.str (.ofString "weight") 407), (.str (.ofString "kind") 408), (.str (.ofString "cooled") 409), (.str (.ofString "hazard") 410)] 0), #[]⟩
noncomputable def o158_5 (P : Params) : Obj := ⟨(.type "tuple"), none, (.seq #[] 0), #[]⟩
noncomputable def o159_5 (P : Params) : Obj := ⟨.none, none, (.func { name := (.ofString "__init__"), qualname := (.ofString "Container.__init__"), params := (sar (nth (inn (nth bd 12)) 0)), body := (.stmts (inn (nth (inn (nth bd 12)) 0))), scope := (ssc (nth (inn (nth bd 12)) 0)), globals := 0, closure := [], defaults := .none, kwdefaults := .none, doc := .none, pyModule := .none, annotations := none, code := .none, closureTuple := .none, builtins := 0 }), #[]⟩
noncomputable def o160_5 (P : Params) : Obj := ⟨(.type "code"), none, (.fields #[(.str (.ofString "__init__") 399), (.str (.ofString "Container.__init__") 400), (.str (.ofString "/claim/cut.py") 401), (.int 73 0), (.int 9 0), (.int 0 0), (.int 0 0), (.int 3 0), (.ref 155), (.bool true), (.int 181 0), (.ref 156), .none, (.ref 157), (.ref 158), (.ref 159), (.int 411 0), (.int 73 0), (.str (.ofString "/claim/cut.py") 412)]), #[]⟩
noncomputable def o161_5 (P : Params) : Obj := ⟨(.type "function"), none, (.func { name := (.ofString "__init__"), qualname := (.ofString "Container.__init__"), params := (sar (nth (inn (nth bd 12)) 0)), body := (.stmts (inn (nth (inn (nth bd 12)) 0))), scope := (ssc (nth (inn (nth bd 12)) 0)), globals := 3, closure := [], defaults := (.ref 154), kwdefaults := .none, doc := .none, pyModule := (.str (.ofString "bayplan.cargo") 364), annotations := none, code := (.ref 160), closureTuple := .none, builtins := 0 }), #[]⟩
noncomputable def o162_5 (P : Params) : Obj := ⟨(.type "tuple"), none, (.seq #[] 0), #[]⟩
noncomputable def o163_5 (P : Params) : Obj := ⟨.none, none, (.fields #[]), #[]⟩
noncomputable def o164_5 (P : Params) : Obj := ⟨(.type "tuple"), none, (.seq #[(.str (.ofString "self") 417)] 0), #[]⟩
noncomputable def o165_5 (P : Params) : Obj := ⟨(.type "tuple"), none, (.seq #[] 0), #[]⟩
noncomputable def o166_5 (P : Params) : Obj := ⟨.none, none, (.func { name := (.ofString "__repr__"), qualname := (.ofString "Container.__repr__"), params := (sar (nth (inn (nth bd 12)) 1)), body := (.stmts (inn (nth (inn (nth bd 12)) 1))), scope := (ssc (nth (inn (nth bd 12)) 1)), globals := 0, closure := [], defaults := .none, kwdefaults := .none, doc := .none, pyModule := .none, annotations := none, code := .none, closureTuple := .none, builtins := 0 }), #[]⟩
noncomputable def o167_5 (P : Params) : Obj := ⟨(.type "code"), none, (.fields #[(.str (.ofString "__repr__") 414), (.str (.ofString "Container.__repr__") 415), (.str (.ofString "/claim/cut.py") 416), (.int 95 0), (.int 1 0), (.int 0 0), (.int 0 0), (.int 3 0), (.ref 162), (.bool true), (.int 181 0), (.ref 163), .none, (.ref 164), (.ref 165), (.ref 166), (.int 418 0), (.int 95 0), (.str (.ofString "/claim/cut.py") 419)]), #[]⟩
noncomputable def o168_5 (P : Params) : Obj := ⟨(.type "function"), none, (.func { name := (.ofString "__repr__"), qualname := (.ofString "Container.__repr__"), params := (sar (nth (inn (nth bd 12)) 1)), body := (.stmts (inn (nth (inn (nth bd 12)) 1))), scope := (ssc (nth (inn (nth bd 12)) 1)), globals := 3, closure := [], defaults := .none, kwdefaults := .none, doc := .none, pyModule := (.str (.ofString "bayplan.cargo") 364), annotations := none, code := (.ref 167), closureTuple := .none, builtins := 0 }), #[]⟩
noncomputable def o169_5 (P : Params) : Obj := ⟨(.type "tuple"), none, (.seq #[] 0), #[]⟩
noncomputable def o170_5 (P : Params) : Obj := ⟨.none, none, (.fields #[]), #[]⟩
noncomputable def o171_5 (P : Params) : Obj := ⟨(.type "tuple"), none, (.seq #[(.str (.ofString "self") 424)] 0), #[]⟩
noncomputable def o172_5 (P : Params) : Obj := ⟨(.type "tuple"), none, (.seq #[] 0), #[]⟩
noncomputable def o173_5 (P : Params) : Obj := ⟨.none, none, (.func { name := (.ofString "key"), qualname := (.ofString "Container.key"), params := (sar (nth (inn (nth bd 12)) 2)), body := (.stmts (inn (nth (inn (nth bd 12)) 2))), scope := (ssc (nth (inn (nth bd 15)) 2)), globals := 0, closure := [], defaults := .none, kwdefaults := .none, doc := .none, pyModule := .none, annotations := none, code := .none, closureTuple := .none, builtins := 0 }), #[]⟩
noncomputable def o174_5 (P : Params) : Obj := ⟨(.type "code"), none, (.fields #[(.str (.ofString "key") 421), (.str (.ofString "Container.key") 422), (.str (.ofString "/claim/cut.py") 423), (.int 98 0), (.int 1 0), (.int 0 0), (.int 0 0), (.int 3 0), (.ref 169), (.bool true), (.int 181 0), (.ref 170), .none, (.ref 171), (.ref 172), (.ref 173), (.int 425 0), (.int 98 0), (.str (.ofString "/claim/cut.py") 426)]), #[]⟩
noncomputable def o175_5 (P : Params) : Obj := ⟨(.type "function"), none, (.func { name := (.ofString "key"), qualname := (.ofString "Container.key"), params := (sar (nth (inn (nth bd 12)) 2)), body := (.stmts (inn (nth (inn (nth bd 12)) 2))), scope := (ssc (nth (inn (nth bd 15)) 2)), globals := 3, closure := [], defaults := .none, kwdefaults := .none, doc := .none, pyModule := (.str (.ofString "bayplan.cargo") 364), annotations := none, code := (.ref 174), closureTuple := .none, builtins := 0 }), #[]⟩
noncomputable def o176_5 (P : Params) : Obj := ⟨(.type "tuple"), none, (.seq #[] 0), #[]⟩
noncomputable def o177_5 (P : Params) : Obj := ⟨.none, none, (.fields #[]), #[]⟩
noncomputable def o178_5 (P : Params) : Obj := ⟨(.type "tuple"), none, (.seq #[(.str (.ofString "self") 431), (.str (.ofString "other") 432)] 0), #[]⟩
noncomputable def o179_5 (P : Params) : Obj := ⟨(.type "tuple"), none, (.seq #[] 0), #[]⟩
noncomputable def o180_5 (P : Params) : Obj := ⟨.none, none, (.func { name := (.ofString "__eq__"), qualname := (.ofString "Container.__eq__"), params := (sar (nth (inn (nth bd 12)) 3)), body := (.stmts (inn (nth (inn (nth bd 12)) 3))), scope := (ssc (nth (inn (nth bd 12)) 3)), globals := 0, closure := [], defaults := .none, kwdefaults := .none, doc := .none, pyModule := .none, annotations := none, code := .none, closureTuple := .none, builtins := 0 }), #[]⟩
noncomputable def o181_5 (P : Params) : Obj := ⟨(.type "code"), none, (.fields #[(.str (.ofString "__eq__") 428), (.str (.ofString "Container.__eq__") 429), (.str (.ofString "/claim/cut.py") 430), (.int 101 0), (.int 2 0), (.int 0 0), (.int 0 0), (.int 3 0), (.ref 176), (.bool true), (.int 181 0), (.ref 177), .none, (.ref 178), (.ref 179), (.ref 180), (.int 433 0), (.int 101 0), (.str (.ofString "/claim/cut.py") 434)]), #[]⟩
noncomputable def o182_5 (P : Params) : Obj := ⟨(.type "function"), none, (.func { name := (.ofString "__eq__"), qualname := (.ofString "Container.__eq__"), params := (sar (nth (inn (nth bd 12)) 3)), body := (.stmts (inn (nth (inn (nth bd 12)) 3))), scope := (ssc (nth (inn (nth bd 12)) 3)), globals := 3, closure := [], defaults := .none, kwdefaults := .none, doc := .none, pyModule := (.str (.ofString "bayplan.cargo") 364), annotations := none, code := (.ref 181), closureTuple := .none, builtins := 0 }), #[]⟩
noncomputable def o183_5 (P : Params) : Obj := ⟨(.type "tuple"), none, (.seq #[] 0), #[]⟩
noncomputable def o184_5 (P : Params) : Obj := ⟨.none, none, (.fields #[]), #[]⟩
noncomputable def o185_5 (P : Params) : Obj := ⟨(.type "tuple"), none, (.seq #[(.str (.ofString "self") 439)] 0), #[]⟩
noncomputable def o186_5 (P : Params) : Obj := ⟨(.type "tuple"), none, (.seq #[] 0), #[]⟩
noncomputable def o187_5 (P : Params) : Obj := ⟨.none, none, (.func { name := (.ofString "__hash__"), qualname := (.ofString "Container.__hash__"), params := (sar (nth (inn (nth bd 12)) 4)), body := (.stmts (inn (nth (inn (nth bd 12)) 4))), scope := (ssc (nth (inn (nth bd 12)) 4)), globals := 0, closure := [], defaults := .none, kwdefaults := .none, doc := .none, pyModule := .none, annotations := none, code := .none, closureTuple := .none, builtins := 0 }), #[]⟩
noncomputable def o188_5 (P : Params) : Obj := ⟨(.type "code"), none, (.fields #[(.str (.ofString "__hash__") 436), (.str (.ofString "Container.__hash__") 437), (.str (.ofString "/claim/cut.py") 438), (.int 106 0), (.int 1 0), (.int 0 0), (.int 0 0), (.int 3 0), (.ref 183), (.bool true), (.int 181 0), (.ref 184), .none, (.ref 185), (.ref 186), (.ref 187), (.int 440 0), (.int 106 0), (.str (.ofString "/claim/cut.py") 441)]), #[]⟩
noncomputable def o189_5 (P : Params) : Obj := ⟨(.type "function"), none, (.func { name := (.ofString "__hash__"), qualname := (.ofString "Container.__hash__"), params := (sar (nth (inn (nth bd 12)) 4)), body := (.stmts (inn (nth (inn (nth bd 12)) 4))), scope := (ssc (nth (inn (nth bd 12)) 4)), globals := 3, closure := [], defaults := .none, kwdefaults := .none, doc := .none, pyModule := (.str (.ofString "bayplan.cargo") 364), annotations := none, code := (.ref 188), closureTuple := .none, builtins := 0 }), #[]⟩
noncomputable def o190_5 (P : Params) : Obj := ⟨(.type "tuple"), none, (.seq #[] 0), #[]⟩
noncomputable def o191_5 (P : Params) : Obj := ⟨.none, none, (.fields #[]), #[]⟩
noncomputable def o192_5 (P : Params) : Obj := ⟨(.type "tuple"), none, (.seq #[(.str (.ofString "self") 446)] 0), #[]⟩
noncomputable def o193_5 (P : Params) : Obj := ⟨(.type "tuple"), none, (.seq #[] 0), #[]⟩
noncomputable def o194_5 (P : Params) : Obj := ⟨.none, none, (.func { name := (.ofString "height"), qualname := (.ofString "Container.height"), params := (sar (nth (inn (nth bd 12)) 5)), body := (.stmts (inn (nth (inn (nth bd 12)) 5))), scope := (ssc (nth (inn (nth bd 12)) 5)), globals := 0, closure := [], defaults := .none, kwdefaults := .none, doc := .none, pyModule := .none, annotations := none, code := .none, closureTuple := .none, builtins := 0 }), #[]⟩
noncomputable def o195_5 (P : Params) : Obj := ⟨(.type "code"), none, (.fields #[(.str (.ofString "height") 443), (.str (.ofString "Container.height") 444), (.str (.ofString "/claim/cut.py") 445), (.int 109 0), (.int 1 0), (.int 0 0), (.int 0 0), (.int 3 0), (.ref 190), (.bool true), (.int 181 0), (.ref 191), .none, (.ref 192), (.ref 193), (.ref 194), (.int 447 0), (.int 109 0), (.str (.ofString "/claim/cut.py") 448)]), #[]⟩
noncomputable def o196_5 (P : Params) : Obj := ⟨(.type "function"), none, (.func { name := (.ofString "height"), qualname := (.ofString "Container.height"), params := (sar (nth (inn (nth bd 12)) 5)), body := (.stmts (inn (nth (inn (nth bd 12)) 5))), scope := (ssc (nth (inn (nth bd 12)) 5)), globals := 3, closure := [], defaults := .none, kwdefaults := .none, doc := .none, pyModule := (.str (.ofString "bayplan.cargo") 364), annotations := none, code := (.ref 195), closureTuple := .none, builtins := 0 }), #[]⟩
noncomputable def o197_5 (P : Params) : Obj := ⟨(.type "tuple"), none, (.seq #[] 0), #[]⟩
noncomputable def o198_5 (P : Params) : Obj := ⟨.none, none, (.fields #[]), #[]⟩
noncomputable def o199_5 (P : Params) : Obj := ⟨(.type "tuple"), none, (.seq #[(.str (.ofString "self") 453)] 0), #[]⟩
noncomputable def o200_5 (P : Params) : Obj := ⟨(.type "tuple"), none, (.seq #[] 0), #[]⟩
noncomputable def o201_5 (P : Params) : Obj := ⟨.none, none, (.func { name := (.ofString "is_long"), qualname := (.ofString "Container.is_long"), params := (sar (nth (inn (nth bd 12)) 6)), body := (.stmts (inn (nth (inn (nth bd 12)) 6))), scope := (ssc (nth (inn (nth bd 12)) 6)), globals := 0, closure := [], defaults := .none, kwdefaults := .none, doc := .none, pyModule := .none, annotations := none, code := .none, closureTuple := .none, builtins := 0 }), #[]⟩
noncomputable def o202_5 (P : Params) : Obj := ⟨(.type "code"), none, (.fields #[(.str (.ofString "is_long") 450), (.str (.ofString "Container.is_long") 451), (.str (.ofString "/claim/cut.py") 452), (.int 112 0), (.int 1 0), (.int 0 0), (.int 0 0), (.int 3 0), (.ref 197), (.bool true), (.int 181 0), (.ref 198), .none, (.ref 199), (.ref 200), (.ref 201), (.int 454 0), (.int 112 0), (.str (.ofString "/claim/cut.py") 455)]), #[]⟩
noncomputable def o203_5 (P : Params) : Obj := ⟨(.type "function"), none, (.func { name := (.ofString "is_long"), qualname := (.ofString "Container.is_long"), params := (sar (nth (inn (nth bd 12)) 6)), body := (.stmts (inn (nth (inn (nth bd 12)) 6))), scope := (ssc (nth (inn (nth bd 12)) 6)), globals := 3, closure := [], defaults := .none, kwdefaults := .none, doc := .none, pyModule := (.str (.ofString "bayplan.cargo") 364), annotations := none, code := (.ref 202), closureTuple := .none, builtins := 0 }), #[]⟩
noncomputable def o204_5 (P : Params) : Obj := ⟨(.type "tuple"), none, (.seq #[] 0), #[]⟩
noncomputable def o205_5 (P : Params) : Obj := ⟨.none, none, (.fields #[]), #[]⟩
noncomputable def o206_5 (P : Params) : Obj := ⟨(.type "tuple"), none, (.seq #[(.str (.ofString "self") 460), (.str (.ofString "slot") 461), (.str (.ofString "bay") 462), (.str (.ofString "row") 463), (.str (.ofString "tier") 464), (.str (.ofString "first") 465)] 0), #[]⟩
noncomputable def o207_5 (P : Params) : Obj := ⟨(.type "tuple"), none, (.seq #[] 0), #[]⟩
noncomputable def o208_5 (P : Params) : Obj := ⟨.none, none, (.func { name := (.ofString "slots"), qualname := (.ofString "Container.slots"), params := (sar (nth (inn (nth bd 12)) 7)), body := (.stmts (inn (nth (inn (nth bd 12)) 7))), scope := (ssc (nth (inn (nth bd 12)) 7)), globals := 0, closure := [], defaults := .none, kwdefaults := .none, doc := .none, pyModule := .none, annotations := none, code := .none, closureTuple := .none, builtins := 0 }), #[]⟩
noncomputable def o209_5 (P : Params) : Obj := ⟨(.type "code"), none, (.fields #[(.str (.ofString "slots") 457), (.str (.ofString "Container.slots") 458), (.str (.ofString "/claim/cut.py") 459), (.int 115 0), (.int 2 0), (.int 0 0), (.int 0 0), (.int 3 0), (.ref 204), (.bool true), (.int 181 0), (.ref 205), .none, (.ref 206), (.ref 207), (.ref 208), (.int 466 0), (.int 115 0), (.str (.ofString "/claim/cut.py") 467)]), #[]⟩
noncomputable def o210_5 (P : Params) : Obj := ⟨(.type "function"), none, (.func { name := (.ofString "slots"), qualname := (.ofString "Container.slots"), params := (sar (nth (inn (nth bd 12)) 7)), body := (.stmts (inn (nth (inn (nth bd 12)) 7))), scope := (ssc (nth (inn (nth bd 12)) 7)), globals := 3, closure := [], defaults := .none, kwdefaults := .none, doc := .none, pyModule := (.str (.ofString "bayplan.cargo") 364), annotations := none, code := (.ref 209), closureTuple := .none, builtins := 0 }), #[]⟩
noncomputable def o211_5 (P : Params) : Obj := ⟨(.type "tuple"), none, (.seq #[] 0), #[]⟩
noncomputable def o212_5 (P : Params) : Obj := ⟨.none, none, (.fields #[]), #[]⟩
noncomputable def o213_5 (P : Params) : Obj := ⟨(.type "tuple"), none, (.seq #[(.str (.ofString "self") 472)] 0), #[]⟩
noncomputable def o214_5 (P : Params) : Obj := ⟨(.type "tuple"), none, (.seq #[] 0), #[]⟩
noncomputable def o215_5 (P : Params) : Obj := ⟨.none, none, (.func { name := (.ofString "weight_on"), qualname := (.ofString "Container.weight_on"), params := (sar (nth (inn (nth bd 12)) 8)), body := (.stmts (inn (nth (inn (nth bd 12)) 8))), scope := (ssc (nth (inn (nth bd 16)) 7)), globals := 0, closure := [], defaults := .none, kwdefaults := .none, doc := .none, pyModule := .none, annotations := none, code := .none, closureTuple := .none, builtins := 0 }), #[]⟩
noncomputable def o216_5 (P : Params) : Obj := ⟨(.type "code"), none, (.fields #[(.str (.ofString "weight_on") 469), (.str (.ofString "Container.weight_on") 470), (.str (.ofString "/claim/cut.py") 471), (.int 122 0), (.int 1 0), (.int 0 0), (.int 0 0), (.int 3 0), (.ref 211), (.bool true), (.int 181 0), (.ref 212), .none, (.ref 213), (.ref 214), (.ref 215), (.int 473 0), (.int 122 0), (.str (.ofString "/claim/cut.py") 474)]), #[]⟩
noncomputable def o217_5 (P : Params) : Obj := ⟨(.type "function"), none, (.func { name := (.ofString "weight_on"), qualname := (.ofString "Container.weight_on"), params := (sar (nth (inn (nth bd 12)) 8)), body := (.stmts (inn (nth (inn (nth bd 12)) 8))), scope := (ssc (nth (inn (nth bd 16)) 7)), globals := 3, closure := [], defaults := .none, kwdefaults := .none, doc := .none, pyModule := (.str (.ofString "bayplan.cargo") 364), annotations := none, code := (.ref 216), closureTuple := .none, builtins := 0 }), #[]⟩
noncomputable def o218_5 (P : Params) : Obj := ⟨(.type "tuple"), none, (.seq #[] 0), #[]⟩
noncomputable def o219_5 (P : Params) : Obj := ⟨.none, none, (.fields #[]), #[]⟩
noncomputable def o220_5 (P : Params) : Obj := ⟨(.type "tuple"), none, (.seq #[(.str (.ofString "self") 479), (.str (.ofString "leg") 480)] 0), #[]⟩
noncomputable def o221_5 (P : Params) : Obj := ⟨(.type "tuple"), none, (.seq #[] 0), #[]⟩
noncomputable def o222_5 (P : Params) : Obj := ⟨.none, none, (.func { name := (.ofString "is_on_leg"), qualname := (.ofString "Container.is_on_leg"), params := (sar (nth (inn (nth bd 12)) 9)), body := (.stmts (inn (nth (inn (nth bd 12)) 9))), scope := (ssc (nth (inn (nth bd 12)) 9)), globals := 0, closure := [], defaults := .none, kwdefaults := .none, doc := .none, pyModule := .none, annotations := none, code := .none, closureTuple := .none, builtins := 0 }), #[]⟩
noncomputable def o223_5 (P : Params) : Obj := ⟨(.type "code"), none, (.fields #[(.str (.ofString "is_on_leg") 476), (.str (.ofString "Container.is_on_leg") 477), (.str (.ofString "/claim/cut.py") 478), (.int 125 0), (.int 2 0), (.int 0 0), (.int 0 0), (.int 3 0), (.ref 218), (.bool true), (.int 181 0), (.ref 219), .none, (.ref 220), (.ref 221), (.ref 222), (.int 481 0), (.int 125 0), (.str (.ofString "/claim/cut.py") 482)]), #[]⟩
noncomputable def o224_5 (P : Params) : Obj := ⟨(.type "function"), none, (.func { name := (.ofString "is_on_leg"), qualname := (.ofString "Container.is_on_leg"), params := (sar (nth (inn (nth bd 12)) 9)), body := (.stmts (inn (nth (inn (nth bd 12)) 9))), scope := (ssc (nth (inn (nth bd 12)) 9)), globals := 3, closure := [], defaults := .none, kwdefaults := .none, doc := .none, pyModule := (.str (.ofString "bayplan.cargo") 364), annotations := none, code := (.ref 223), closureTuple := .none, builtins := 0 }), #[]⟩
noncomputable def o225_5 (P : Params) : Obj := ⟨(.type "tuple"), none, (.seq #[(.str (.ofString "cooled") 484), (.str (.ofString "discharge") 485), (.str (.ofString "hazard") 486), (.str (.ofString "kind") 487), (.str (.ofString "length") 488), (.str (.ofString "load") 489), (.str (.ofString "name") 490), (.str (.ofString "weight") 491)] 0), #[]⟩
noncomputable def o226_5 (P : Params) : Obj := ⟨(.type "dict"), none, (.dict #[en P (.ofString "__module__") 391 (.str (.ofString "bayplan.cargo") 364), en P (.ofString "__firstlineno__") 395 (.int 71 394), en P (.ofString "__init__") 413 (.ref 161), en P (.ofString "__repr__") 420 (.ref 168), en P (.ofString "key") 427 (.ref 175), en P (.ofString "__eq__") 435 (.ref 182), en P (.ofString "__hash__") 442 (.ref 189), en P (.ofString "height") 449 (.ref 196), en P (.ofString "is_long") 456 (.ref 203), en P (.ofString "slots") 468 (.ref 210), en P (.ofString "weight_on") 475 (.ref 217), en P (.ofString "is_on_leg") 483 (.ref 224), en P (.ofString "__static_attributes__") 492 (.ref 225), en P (.ofString "__dict__") 494 (.ref 228), en P (.ofString "__weakref__") 496 (.ref 229), en P (.ofString "__doc__") 497 .none] 4), #[]⟩
noncomputable def o227_5 (P : Params) : Obj := ⟨(.type "type"), none, (.cls { name := (.ofString "Container"), bases := [(.type "object")], mro := [(.ref 227), (.type "object")], ns := 226, qualname := (.ofString "Container"), hasDict := true, slotNames := [], subclasses := [], abstract := false, collection := none, hasDel := false }), #[none, none, (some (.str (.ofString "Container") 384)), (some (.str (.ofString "Container") 392)), (some (.builtin "object.__new__")), (some (.bool true))]⟩
noncomputable def o228_5 (P : Params) : Obj := ⟨(.type "getset_descriptor"), none, (.fields #[(.str (.ofString "__dict__") 493), (.ref 227), (.builtin "function.__dict__"), (.builtin "function.__dict__#set")]), #[]⟩
noncomputable def o229_5 (P : Params) : Obj := ⟨(.type "getset_descriptor"), none, (.fields #[(.str (.ofString "__weakref__") 495), (.ref 227), (.builtin "ExceptionGroup.__weakref__"), .none]), #[]⟩
noncomputable def o230_5 (P : Params) : Obj := ⟨(.type "super"), none, (.fields #[(.ref 227), (.ref 227), (.ref 227)]), #[]⟩
noncomputable def o231_5 (P : Params) : Obj := ⟨(.type "builtin_function_or_method"), none, (.fields #[(.builtin "object.__init_subclass__"), (.ref 227)]), #[]⟩
noncomputable def T4 (P : Params) : BT := (.node (PySem.W.boot_o_0 P) (.node (PySem.W.boot_o_1 P) (.node (o3_5 P) (.node (PySem.W.boot_o_7 P) (.node (o15_2 P) (.node (o31_3 P) (.node (o63_4 P) (.node (o127_4 P) .nil .nil) (.node (o191_5 P) .nil .nil)) (.node (o95_4 P) (.node (o159_5 P) .nil .nil) (.node (o223_5 P) .nil .nil))) (.node (o47_3 P) (.node (o79_4 P) (.node (o143_4 P) .nil .nil) (.node (o207_5 P) .nil .nil)) (.node (o111_4 P) (.node (o175_5 P) .nil .nil) .nil))) (.node (o23_2 P) (.node (o39_2 P) (.node (o71_4 P) (.node (o135_4 P) .nil .nil) (.node (o199_5 P) .nil .nil)) (.node (o103_4 P) (.node (o167_5 P) .nil .nil) (.node (o231_5 P) .nil .nil))) (.node (o55_3 P) (.node (o87_4 P) (.node (o151_5 P) .nil .nil) (.node (o215_5 P) .nil .nil)) (.node (o119_4 P) (.node (o183_5 P) .nil .nil) .nil)))) (.node (o11_0 P) (.node (o19_2 P) (.node (o35_2 P) (.node (o67_4 P) (.node (o131_4 P) .nil .nil) (.node (o195_5 P) .nil .nil)) (.node (o99_4 P) (.node (o163_5 P) .nil .nil) (.node (o227_5 P) .nil .nil))) (.node (o51_3 P) (.node (o83_4 P) (.node (o147_5 P) .nil .nil) (.node (o211_5 P) .nil .nil)) (.node (o115_4 P) (.node (o179_5 P) .nil .nil) .nil))) (.node (o27_2 P) (.node (o43_2 P) (.node (o75_4 P) (.node (o139_4 P) .nil .nil) (.node (o203_5 P) .nil .nil)) (.node (o107_4 P) (.node (o171_5 P) .nil .nil) .nil)) (.node (o59_4 P) (.node (o91_4 P) (.node (o155_5 P) .nil .nil) (.node (o219_5 P) .nil .nil)) (.node (o123_4 P) (.node (o187_5 P) .nil .nil) .nil))))) (.node (PySem.W.boot_o_5 P) (.node (PySem.W.boot_o_9 P) (.node (o17_2 P) (.node (o33_2 P) (.node (o65_4 P) (.node (o129_4 P) .nil .nil) (.node (o193_5 P) .nil .nil)) (.node (o97_4 P) (.node (o161_5 P) .nil .nil) (.node (o225_5 P) .nil .nil))) (.node (o49_3 P) (.node (o81_4 P) (.node (o145_4 P) .nil .nil) (.node (o209_5 P) .nil .nil)) (.node (o113_4 P) (.node (o177_5 P) .nil .nil) .nil))) (.node (o25_2 P) (.node (o41_2 P) (.node (o73_4 P) (.node (o137_4 P) .nil .nil) (.node (o201_5 P) .nil .nil)) (.node (o105_4 P) (.node (o169_5 P) .nil .nil) .nil)) (.node (o57_3 P) (.node (o89_4 P) (.node (o153_5 P) .nil .nil) (.node (o217_5 P) .nil .nil)) (.node (o121_4 P) (.node (o185_5 P) .nil .nil) .nil)))) (.node (o13_0 P) (.node (o21_2 P) (.node (o37_2 P) (.node (o69_4 P) (.node (o133_4 P) .nil .nil) (.node (o197_5 P) .nil .nil)) (.node (o101_4 P) (.node (o165_5 P) .nil .nil) (.node (o229_5 P) .nil .nil))) (.node (o53_3 P) (.node (o85_4 P) (.node (o149_5 P) .nil .nil) (.node (o213_5 P) .nil .nil)) (.node (o117_4 P) (.node (o181_5 P) .nil .nil) .nil))) (.node (o29_2 P) (.node (o45_2 P) (.node (o77_4 P) (.node (o141_4 P) .nil .nil) (.node (o205_5 P) .nil .nil)) (.node (o109_4 P) (.node (o173_5 P) .nil .nil) .nil)) (.node (o61_4 P) (.node (o93_4 P) (.node (o157_5 P) .nil .nil) (.node (o221_5 P) .nil .nil)) (.node (o125_4 P) (.node (o189_5 P) .nil .nil) .nil)))))) (.node (o2_2 P) (.node (PySem.W.boot_o_4 P) (.node (PySem.W.boot_o_8 P) (.node (o16_2 P) (.node (o32_2 P) (.node (o64_4 P) (.node (o128_4 P) .nil .nil) (.node (o192_5 P) .nil .nil)) (.node (o96_4 P) (.node (o160_5 P) .nil .nil) (.node (o224_5 P) .nil .nil))) (.node (o48_3 P) (.node (o80_4 P) (.node (o144_4 P) .nil .nil) (.node (o208_5 P) .nil .nil)) (.node (o112_4 P) (.node (o176_5 P) .nil .nil) .nil))) (.node (o24_2 P) (.node (o40_2 P) (.node (o72_4 P) (.node (o136_4 P) .nil .nil) (.node (o200_5 P) .nil .nil)) (.node (o104_4 P) (.node (o168_5 P) .nil .nil) .nil)) (.node (o56_3 P) (.node (o88_4 P) (.node (o152_5 P) .nil .nil) (.node (o216_5 P) .nil .nil)) (.node (o120_4 P) (.node (o184_5 P) .nil .nil) .nil)))) (.node (o12_5 P) (.node (o20_2 P) (.node (o36_2 P) (.node (o68_4 P) (.node (o132_4 P) .nil .nil) (.node (o196_5 P) .nil .nil)) (.node (o100_4 P) (.node (o164_5 P) .nil .nil) (.node (o228_5 P) .nil .nil))) (.node (o52_3 P) (.node (o84_4 P) (.node (o148_5 P) .nil .nil) (.node (o212_5 P) .nil .nil)) (.node (o116_4 P) (.node (o180_5 P) .nil .nil) .nil))) (.node (o28_2 P) (.node (o44_2 P) (.node (o76_4 P) (.node (o140_4 P) .nil .nil) (.node (o204_5 P) .nil .nil)) (.node (o108_4 P) (.node (o172_5 P) .nil .nil) .nil)) (.node (o60_4 P) (.node (o92_4 P) (.node (o156_5 P) .nil .nil) (.node (o220_5 P) .nil .nil)) (.node (o124_4 P) (.node (o188_5 P) .nil .nil) .nil))))) (.node (PySem.W.boot_o_6 P) (.node (PySem.W.boot_o_10 P) (.node (o18_2 P) (.node (o34_2 P) (.node (o66_4 P) (.node (o130_4 P) .nil .nil) (.node (o194_5 P) .nil .nil)) (.node (o98_4 P) (.node (o162_5 P) .nil .nil) (.node (o226_5 P) .nil .nil))) (.node (o50_3 P) (.node (o82_4 P) (.node (o146_4 P) .nil .nil) (.node (o210_5 P) .nil .nil)) (.node (o114_4 P) (.node (o178_5 P) .nil .nil) .nil))) (.node (o26_2 P) (.node (o42_2 P) (.node (o74_4 P) (.node (o138_4 P) .nil .nil) (.node (o202_5 P) .nil .nil)) (.node (o106_4 P) (.node (o170_5 P) .nil .nil) .nil)) (.node (o58_3 P) (.node (o90_4 P) (.node (o154_5 P) .nil .nil) (.node (o218_5 P) .nil .nil)) (.node (o122_4 P) (.node (o186_5 P) .nil .nil) .nil)))) (.node (o14_0 P) (.node (o22_2 P) (.node (o38_2 P) (.node (o70_4 P) (.node (o134_4 P) .nil .nil) (.node (o198_5 P) .nil .nil)) (.node (o102_4 P) (.node (o166_5 P) .nil .nil) (.node (o230_5 P) .nil .nil))) (.node (o54_3 P) (.node (o86_4 P) (.node (o150_5 P) .nil .nil) (.node (o214_5 P) .nil .nil)) (.node (o118_4 P) (.node (o182_5 P) .nil .nil) .nil))) (.node (o30_2 P) (.node (o46_2 P) (.node (o78_4 P) (.node (o142_4 P) .nil .nil) (.node (o206_5 P) .nil .nil)) (.node (o110_4 P) (.node (o174_5 P) .nil .nil) .nil)) (.node (o62_4 P) (.node (o94_4 P) (.node (o158_5 P) .nil .nil) (.node (o222_5 P) .nil .nil)) (.node (o126_4 P) (.node (o190_5 P) .nil .nil) .nil)))))))
noncomputable def o3_6 (P : Params) : Obj := ⟨(.type "dict"), none, (.dict #[en P (.ofString "__name__") 165 (.str (.ofString "bayplan.booking") 611), en P (.ofString "__doc__") 166 .none, en P (.ofString "__package__") 167 .none, en P (.ofString "__loader__") 168 (.builtin "__main__.__loader__#opaque"), en P (.ofString "__spec__") 169 .none, en P (.ofString "__annotations__") 170 (.ref 6), en P (.ofString "__builtins__") 171 (.ref 4), en P (.ofString "__file__") 173 (.str (.ofString "/claim/cut.py") 172), en P (.ofString "__cached__") 174 .none, en P (.ofString "_wall") 193 (.ref 21), en P (.ofString "StowError") 215 (.ref 31), en P (.ofString "ShipError") 231 (.ref 44), en P (.ofString "CargoError") 247 (.ref 56), en P (.ofString "Ship") 363 (.ref 134), en P (.ofString "SHORT") 367 (.int 20 366), en P (.ofString "LONG") 369 (.int 40 368), en P (.ofString "HEIGHTS") 376 (.ref 139), en P (.ofString "is_word") 383 (.ref 146), en P (.ofString "Container") 499 (.ref 227), en P (.ofString "Voyage") 610 (.ref 319)] 20), #[]⟩
noncomputable def o12_6 (P : Params) : Obj := ⟨.none, none, (.fields #[(.int 1 0), (.int 0 0), (.ref 20), (.int 5 0), (.int 0 0), (.ref 27), (.int 7 0), (.int 0 0), (.ref 40), (.int 9 0), (.int 0 0), (.ref 52), (.int 12 0), (.int 0 0), (.ref 64), (.int 69 0), (.int 0 0), (.ref 145), (.int 71 0), (.int 0 0), (.ref 152), (.int 127 0), (.int 0 0), (.ref 237)]), #[]⟩
noncomputable def o232_6 (P : Params) : Obj := ⟨(.type "tuple"), none, (.seq #[] 0), #[]⟩
noncomputable def o233_6 (P : Params) : Obj := ⟨(.type "builtin_function_or_method"), none, (.fields #[(.builtin "type.__prepare__"), (.type "type")]), #[]⟩
noncomputable def o234_6 (P : Params) : Obj := ⟨(.type "dict"), none, (.dict #[en P (.ofString "__module__") 507 (.str (.ofString "bayplan.cargo") 364), en P (.ofString "__qualname__") 509 (.str (.ofString "Voyage") 508), en P (.ofString "__firstlineno__") 511 (.int 127 510), en P (.ofString "__init__") 517 (.ref 243), en P (.ofString "legs") 524 (.ref 250), en P (.ofString "port") 533 (.ref 257), en P (.ofString "add") 541 (.ref 264), en P (.ofString "get") 549 (.ref 271), en P (.ofString "names") 556 (.ref 278), en P (.ofString "on_leg") 562 (.ref 283), en P (.ofString "loaded_at") 570 (.ref 290), en P (.ofString "discharged_at") 578 (.ref 297), en P (.ofString "staying_at") 586 (.ref 304), en P (.ofString "weight_on_leg") 594 (.ref 311), en P (.ofString "units") 600 (.ref 316), en P (.ofString "__static_attributes__") 603 (.ref 317)] 16), #[]⟩
noncomputable def o235_6 (P : Params) : Obj := ⟨(.type "tuple"), none, (.seq #[] 0), #[]⟩
noncomputable def o236_6 (P : Params) : Obj := ⟨.none, none, (.fields #[(.int 129 0), (.int 4 0), (.ref 242), (.int 135 0), (.int 4 0), (.ref 249), (.int 138 0), (.int 4 0), (.ref 256), (.int 144 0), (.int 4 0), (.ref 263), (.int 152 0), (.int 4 0), (.ref 270), (.int 157 0), (.int 4 0), (.ref 277), (.int 160 0), (.int 4 0), (.ref 282), (.int 163 0), (.int 4 0), (.ref 289), (.int 166 0), (.int 4 0), (.ref 296), (.int 169 0), (.int 4 0), (.ref 303), (.int 172 0), (.int 4 0), (.ref 310), (.int 175 0), (.int 4 0), (.ref 315)]), #[]⟩
noncomputable def o237_6 (P : Params) : Obj := ⟨(.type "code"), none, (.fields #[(.str (.ofString "Voyage") 502), (.str (.ofString "Voyage") 503), (.str (.ofString "/claim/cut.py") 504), (.int 127 0), (.int 0 0), (.int 0 0), (.int 0 0), (.int 0 0), (.ref 235), (.bool false), (.int 181 0), (.ref 236), .none, .none, .none, .none, (.int 505 0), (.int 127 0), (.str (.ofString "/claim/cut.py") 506)]), #[]⟩
noncomputable def o238_6 (P : Params) : Obj := ⟨(.type "frame"), none, .plain, #[(some (.ref 237)), (some (.ref 3)), (some (.ref 234)), none, (some (.str (.ofString "bayplan.cargo") 364)), none, (some (.ref 0))]⟩
noncomputable def o239_6 (P : Params) : Obj := ⟨(.type "tuple"), none, (.seq #[] 0), #[]⟩
noncomputable def o240_6 (P : Params) : Obj := ⟨.none, none, (.fields #[]), #[]⟩
noncomputable def o241_6 (P : Params) : Obj := ⟨.none, none, (.func { name := (.ofString "__init__"), qualname := (.ofString "Voyage.__init__"), params := (sar (nth (inn (nth bd 13)) 0)), body := (.stmts (inn (nth (inn (nth bd 13)) 0))), scope := (ssc (nth (inn (nth bd 13)) 0)), globals := 0, closure := [], defaults := .none, kwdefaults := .none, doc := .none, pyModule := .none, annotations := none, code := .none, closureTuple := .none, builtins := 0 }), #[]⟩
noncomputable def o242_6 (P : Params) : Obj := ⟨(.type "code"), none, (.fields #[(.str (.ofString "__init__") 512), (.str (.ofString "Voyage.__init__") 513), (.str (.ofString "/claim/cut.py") 514), (.int 129 0), (.int 2 0), (.int 0 0), (.int 0 0), (.int 3 0), (.ref 239), (.bool true), (.int 181 0), (.ref 240), .none, .none, .none, (.ref 241), (.int 515 0), (.int 129 0), (.str (.ofString "/claim/cut.py") 516)]), #[]⟩
noncomputable def o243_6 (P : Params) : Obj := ⟨(.type "function"), none, (.func { name := (.ofString "__init__"), qualname := (.ofString "Voyage.__init__"), params := (sar (nth (inn (nth bd 13)) 0)), body := (.stmts (inn (nth (inn (nth bd 13)) 0))), scope := (ssc (nth (inn (nth bd 13)) 0)), globals := 3, closure := [], defaults := .none, kwdefaults := .none, doc := .none, pyModule := (.str (.ofString "bayplan.cargo") 364), annotations := none, code := (.ref 242), closureTuple := .none, builtins := 0 }), #[]⟩
noncomputable def o244_6 (P : Params) : Obj := ⟨(.type "tuple"), none, (.seq #[] 0), #[]⟩
noncomputable def o245_6 (P : Params) : Obj := ⟨.none, none, (.fields #[]), #[]⟩
noncomputable def o246_6 (P : Params) : Obj := ⟨(.type "tuple"), none, (.seq #[(.str (.ofString "self") 521)] 0), #[]⟩
noncomputable def o247_6 (P : Params) : Obj := ⟨(.type "tuple"), none, (.seq #[] 0), #[]⟩
noncomputable def o248_6 (P : Params) : Obj := ⟨.none, none, (.func { name := (.ofString "legs"), qualname := (.ofString "Voyage.legs"), params := (sar (nth (inn (nth bd 13)) 1)), body := (.stmts (inn (nth (inn (nth bd 13)) 1))), scope := (ssc (nth (inn (nth bd 16)) 1)), globals := 0, closure := [], defaults := .none, kwdefaults := .none, doc := .none, pyModule := .none, annotations := none, code := .none, closureTuple := .none, builtins := 0 }), #[]⟩
noncomputable def o249_6 (P : Params) : Obj := ⟨(.type "code"), none, (.fields #[(.str (.ofString "legs") 518), (.str (.ofString "Voyage.legs") 519), (.str (.ofString "/claim/cut.py") 520), (.int 135 0), (.int 1 0), (.int 0 0), (.int 0 0), (.int 3 0), (.ref 244), (.bool true), (.int 181 0), (.ref 245), .none, (.ref 246), (.ref 247), (.ref 248), (.int 522 0), (.int 135 0), (.str (.ofString "/claim/cut.py") 523)]), #[]⟩
noncomputable def o250_6 (P : Params) : Obj := ⟨(.type "function"), none, (.func { name := (.ofString "legs"), qualname := (.ofString "Voyage.legs"), params := (sar (nth (inn (nth bd 13)) 1)), body := (.stmts (inn (nth (inn (nth bd 13)) 1))), scope := (ssc (nth (inn (nth bd 16)) 1)), globals := 3, closure := [], defaults := .none, kwdefaults := .none, doc := .none, pyModule := (.str (.ofString "bayplan.cargo") 364), annotations := none, code := (.ref 249), closureTuple := .none, builtins := 0 }), #[]⟩
noncomputable def o251_6 (P : Params) : Obj := ⟨(.type "tuple"), none, (.seq #[] 0), #[]⟩
noncomputable def o252_6 (P : Params) : Obj := ⟨.none, none, (.fields #[]), #[]⟩
noncomputable def o253_6 (P : Params) : Obj := ⟨(.type "tuple"), none, (.seq #[(.str (.ofString "self") 528), (.str (.ofString "name") 529), (.str (.ofString "place") 530)] 0), #[]⟩
noncomputable def o254_6 (P : Params) : Obj := ⟨(.type "tuple"), none, (.seq #[] 0), #[]⟩
noncomputable def o255_6 (P : Params) : Obj := ⟨.none, none, (.func { name := (.ofString "port"), qualname := (.ofString "Voyage.port"), params := (sar (nth (inn (nth bd 13)) 2)), body := (.stmts (inn (nth (inn (nth bd 13)) 2))), scope := (ssc (nth (inn (nth bd 13)) 2)), globals := 0, closure := [], defaults := .none, kwdefaults := .none, doc := .none, pyModule := .none, annotations := none, code := .none, closureTuple := .none, builtins := 0 }), #[]⟩
noncomputable def o256_6 (P : Params) : Obj := ⟨(.type "code"), none, (.fields #[(.str (.ofString "port") 525), (.str (.ofString "Voyage.port") 526), (.str (.ofString "/claim/cut.py") 527), (.int 138 0), (.int 2 0), (.int 0 0), (.int 0 0), (.int 3 0), (.ref 251), (.bool true), (.int 181 0), (.ref 252), .none, (.ref 253), (.ref 254), (.ref 255), (.int 531 0), (.int 138 0), (.str (.ofString "/claim/cut.py") 532)]), #[]⟩
noncomputable def o257_6 (P : Params) : Obj := ⟨(.type "function"), none, (.func { name := (.ofString "port"), qualname := (.ofString "Voyage.port"), params := (sar (nth (inn (nth bd 13)) 2)), body := (.stmts (inn (nth (inn (nth bd 13)) 2))), scope := (ssc (nth (inn (nth bd 13)) 2)), globals := 3, closure := [], defaults := .none, kwdefaults := .none, doc := .none, pyModule := (.str (.ofString "bayplan.cargo") 364), annotations := none, code := (.ref 256), closureTuple := .none, builtins := 0 }), #[]⟩
noncomputable def o258_6 (P : Params) : Obj := ⟨(.type "tuple"), none, (.seq #[] 0), #[]⟩
noncomputable def o259_6 (P : Params) : Obj := ⟨.none, none, (.fields #[]), #[]⟩
noncomputable def o260_6 (P : Params) : Obj := ⟨(.type "tuple"), none, (.seq #[(.str (.ofString "self") 537), (.str (.ofString "container") 538)] 0), #[]⟩
noncomputable def o261_6 (P : Params) : Obj := ⟨(.type "tuple"), none, (.seq #[] 0), #[]⟩
noncomputable def o262_6 (P : Params) : Obj := ⟨.none, none, (.func { name := (.ofString "add"), qualname := (.ofString "Voyage.add"), params := (sar (nth (inn (nth bd 13)) 3)), body := (.stmts (inn (nth (inn (nth bd 13)) 3))), scope := (ssc (nth (inn (nth bd 13)) 3)), globals := 0, closure := [], defaults := .none, kwdefaults := .none, doc := .none, pyModule := .none, annotations := none, code := .none, closureTuple := .none, builtins := 0 }), #[]⟩
noncomputable def o263_6 (P : Params) : Obj := ⟨(.type "code"), none, (.fields #[(.str (.ofString "add") 534), (.str (.ofString "Voyage.add") 535), (.str (.ofString "/claim/cut.py") 536), (.int 144 0), (.int 2 0), (.int 0 0), (.int 0 0), (.int 3 0), (.ref 258), (.bool true), (.int 181 0), (.ref 259), .none, (.ref 260), (.ref 261), (.ref 262), (.int 539 0), (.int 144 0), (.str (.ofString "/claim/cut.py") 540)]), #[]⟩
noncomputable def o264_6 (P : Params) : Obj := ⟨(.type "function"), none, (.func { name := (.ofString "add"), qualname := (.ofString "Voyage.add"), params := (sar (nth (inn (nth bd 13)) 3)), body := (.stmts (inn (nth (inn (nth bd 13)) 3))), scope := (ssc (nth (inn (nth bd 13)) 3)), globals := 3, closure := [], defaults := .none, kwdefaults := .none, doc := .none, pyModule := (.str (.ofString "bayplan.cargo") 364), annotations := none, code := (.ref 263), closureTuple := .none, builtins := 0 }), #[]⟩
noncomputable def o265_6 (P : Params) : Obj := ⟨(.type "tuple"), none, (.seq #[] 0), #[]⟩
noncomputable def o266_6 (P : Params) : Obj := ⟨.none, none, (.fields #[]), #[]⟩
noncomputable def o267_6 (P : Params) : Obj := ⟨(.type "tuple"), none, (.seq #[(.str (.ofString "self") 545), (.str (.ofString "name") 546)] 0), #[]⟩
noncomputable def o268_6 (P : Params) : Obj := ⟨(.type "tuple"), none, (.seq #[] 0), #[]⟩
noncomputable def o269_6 (P : Params) : Obj := ⟨.none, none, (.func { name := (.ofString "get"), qualname := (.ofString "Voyage.get"), params := (sar (nth (inn (nth bd 13)) 4)), body := (.stmts (inn (nth (inn (nth bd 13)) 4))), scope := (ssc (nth (inn (nth bd 13)) 4)), globals := 0, closure := [], defaults := .none, kwdefaults := .none, doc := .none, pyModule := .none, annotations := none, code := .none, closureTuple := .none, builtins := 0 }), #[]⟩
noncomputable def o270_6 (P : Params) : Obj := ⟨(.type "code"), none, (.fields #[(.str (.ofString "get") 542), (.str (.ofString "Voyage.get") 543), (.str (.ofString "/claim/cut.py") 544), (.int 152 0), (.int 2 0), (.int 0 0), (.int 0 0), (.int 3 0), (.ref 265), (.bool true), (.int 181 0), (.ref 266), .none, (.ref 267), (.ref 268), (.ref 269), (.int 547 0), (.int 152 0), (.str (.ofString "/claim/cut.py") 548)]), #[]⟩
noncomputable def o271_6 (P : Params) : Obj := ⟨(.type "function"), none, (.func { name := (.ofString "get"), qualname := (.ofString "Voyage.get"), params := (sar (nth (inn (nth bd 13)) 4)), body := (.stmts (inn (nth (inn (nth bd 13)) 4))), scope := (ssc (nth (inn (nth bd 13)) 4)), globals := 3, closure := [], defaults := .none, kwdefaults := .none, doc := .none, pyModule := (.str (.ofString "bayplan.cargo") 364), annotations := none, code := (.ref 270), closureTuple := .none, builtins := 0 }), #[]⟩
noncomputable def o272_6 (P : Params) : Obj := ⟨(.type "tuple"), none, (.seq #[] 0), #[]⟩
noncomputable def o273_6 (P : Params) : Obj := ⟨.none, none, (.fields #[]), #[]⟩
noncomputable def o274_6 (P : Params) : Obj := ⟨(.type "tuple"), none, (.seq #[(.str (.ofString "self") 553)] 0), #[]⟩
noncomputable def o275_6 (P : Params) : Obj := ⟨(.type "tuple"), none, (.seq #[] 0), #[]⟩
noncomputable def o276_6 (P : Params) : Obj := ⟨.none, none, (.func { name := (.ofString "names"), qualname := (.ofString "Voyage.names"), params := (sar (nth (inn (nth bd 13)) 5)), body := (.stmts (inn (nth (inn (nth bd 13)) 5))), scope := (ssc (nth (inn (nth bd 13)) 5)), globals := 0, closure := [], defaults := .none, kwdefaults := .none, doc := .none, pyModule := .none, annotations := none, code := .none, closureTuple := .none, builtins := 0 }), #[]⟩
noncomputable def o277_6 (P : Params) : Obj := ⟨(.type "code"), none, (.fields #[(.str (.ofString "names") 550), (.str (.ofString "Voyage.names") 551), (.str (.ofString "/claim/cut.py") 552), (.int 157 0), (.int 1 0), (.int 0 0), (.int 0 0), (.int 3 0), (.ref 272), (.bool true), (.int 181 0), (.ref 273), .none, (.ref 274), (.ref 275), (.ref 276), (.int 554 0), (.int 157 0), (.str (.ofString "/claim/cut.py") 555)]), #[]⟩
noncomputable def o278_6 (P : Params) : Obj := ⟨(.type "function"), none, (.func { name := (.ofString "names"), qualname := (.ofString "Voyage.names"), params := (sar (nth (inn (nth bd 13)) 5)), body := (.stmts (inn (nth (inn (nth bd 13)) 5))), scope := (ssc (nth (inn (nth bd 13)) 5)), globals := 3, closure := [], defaults := .none, kwdefaults := .none, doc := .none, pyModule := (.str (.ofString "bayplan.cargo") 364), annotations := none, code := (.ref 277), closureTuple := .none, builtins := 0 }), #[]⟩
noncomputable def o279_6 (P : Params) : Obj := ⟨(.type "tuple"), none, (.seq #[] 0), #[]⟩
noncomputable def o280_6 (P : Params) : Obj := ⟨.none, none, (.fields #[]), #[]⟩
noncomputable def o281_6 (P : Params) : Obj := ⟨.none, none, (.func { name := (.ofString "on_leg"), qualname := (.ofString "Voyage.on_leg"), params := (sar (nth (inn (nth bd 13)) 6)), body := (.stmts (inn (nth (inn (nth bd 13)) 6))), scope := (ssc (nth (inn (nth bd 13)) 6)), globals := 0, closure := [], defaults := .none, kwdefaults := .none, doc := .none, pyModule := .none, annotations := none, code := .none, closureTuple := .none, builtins := 0 }), #[]⟩
noncomputable def o282_6 (P : Params) : Obj := ⟨(.type "code"), none, (.fields #[(.str (.ofString "on_leg") 557), (.str (.ofString "Voyage.on_leg") 558), (.str (.ofString "/claim/cut.py") 559), (.int 160 0), (.int 2 0), (.int 0 0), (.int 0 0), (.int 3 0), (.ref 279), (.bool true), (.int 181 0), (.ref 280), .none, .none, .none, (.ref 281), (.int 560 0), (.int 160 0), (.str (.ofString "/claim/cut.py") 561)]), #[]⟩
noncomputable def o283_6 (P : Params) : Obj := ⟨(.type "function"), none, (.func { name := (.ofString "on_leg"), qualname := (.ofString "Voyage.on_leg"), params := (sar (nth (inn (nth bd 13)) 6)), body := (.stmts (inn (nth (inn (nth bd 13)) 6))), scope := (ssc (nth (inn (nth bd 13)) 6)), globals := 3, closure := [], defaults := .none, kwdefaults := .none, doc := .none, pyModule := (.str (.ofString "bayplan.cargo") 364), annotations := none, code := (.ref 282), closureTuple := .none, builtins := 0 }), #[]⟩
noncomputable def o284_6 (P : Params) : Obj := ⟨(.type "tuple"), none, (.seq #[] 0), #[]⟩
noncomputable def o285_6 (P : Params) : Obj := ⟨.none, none, (.fields #[]), #[]⟩
noncomputable def o286_6 (P : Params) : Obj := ⟨(.type "tuple"), none, (.seq #[(.str (.ofString "self") 566), (.str (.ofString "port") 567)] 0), #[]⟩
noncomputable def o287_6 (P : Params) : Obj := ⟨(.type "tuple"), none, (.seq #[] 0), #[]⟩
noncomputable def o288_6 (P : Params) : Obj := ⟨.none, none, (.func { name := (.ofString "loaded_at"), qualname := (.ofString "Voyage.loaded_at"), params := (sar (nth (inn (nth bd 13)) 7)), body := (.stmts (inn (nth (inn (nth bd 13)) 7))), scope := (ssc (nth (inn (nth bd 13)) 9)), globals := 0, closure := [], defaults := .none, kwdefaults := .none, doc := .none, pyModule := .none, annotations := none, code := .none, closureTuple := .none, builtins := 0 }), #[]⟩
noncomputable def o289_6 (P : Params) : Obj := ⟨(.type "code"), none, (.fields #[(.str (.ofString "loaded_at") 563), (.str (.ofString "Voyage.loaded_at") 564), (.str (.ofString "/claim/cut.py") 565), (.int 163 0), (.int 2 0), (.int 0 0), (.int 0 0), (.int 3 0), (.ref 284), (.bool true), (.int 181 0), (.ref 285), .none, (.ref 286), (.ref 287), (.ref 288), (.int 568 0), (.int 163 0), (.str (.ofString "/claim/cut.py") 569)]), #[]⟩
noncomputable def o290_6 (P : Params) : Obj := ⟨(.type "function"), none, (.func { name := (.ofString "loaded_at"), qualname := (.ofString "Voyage.loaded_at"), params := (sar (nth (inn (nth bd 13)) 7)), body := (.stmts (inn (nth (inn (nth bd 13)) 7))), scope := (ssc (nth (inn (nth bd 13)) 9)), globals := 3, closure := [], defaults := .none, kwdefaults := .none, doc := .none, pyModule := (.str (.ofString "bayplan.cargo") 364), annotations := none, code := (.ref 289), closureTuple := .none, builtins := 0 }), #[]⟩
noncomputable def o291_6 (P : Params) : Obj := ⟨(.type "tuple"), none, (.seq #[] 0), #[]⟩
noncomputable def o292_6 (P : Params) : Obj := ⟨.none, none, (.fields #[]), #[]⟩
noncomputable def o293_6 (P : Params) : Obj := ⟨(.type "tuple"), none, (.seq #[(.str (.ofString "self") 574), (.str (.ofString "port") 575)] 0), #[]⟩
noncomputable def o294_6 (P : Params) : Obj := ⟨(.type "tuple"), none, (.seq #[] 0), #[]⟩
noncomputable def o295_6 (P : Params) : Obj := ⟨.none, none, (.func { name := (.ofString "discharged_at"), qualname := (.ofString "Voyage.discharged_at"), params := (sar (nth (inn (nth bd 13)) 8)), body := (.stmts (inn (nth (inn (nth bd 13)) 8))), scope := (ssc (nth (inn (nth bd 13)) 9)), globals := 0, closure := [], defaults := .none, kwdefaults := .none, doc := .none, pyModule := .none, annotations := none, code := .none, closureTuple := .none, builtins := 0 }), #[]⟩
noncomputable def o296_6 (P : Params) : Obj := ⟨(.type "code"), none, (.fields #[(.str (.ofString "discharged_at") 571), (.str (.ofString "Voyage.discharged_at") 572), (.str (.ofString "/claim/cut.py") 573), (.int 166 0), (.int 2 0), (.int 0 0), (.int 0 0), (.int 3 0), (.ref 291), (.bool true), (.int 181 0), (.ref 292), .none, (.ref 293), (.ref 294), (.ref 295), (.int 576 0), (.int 166 0), (.str (.ofString "/claim/cut.py") 577)]), #[]⟩
noncomputable def o297_6 (P : Params) : Obj := ⟨(.type "function"), none, (.func { name := (.ofString "discharged_at"), qualname := (.ofString "Voyage.discharged_at"), params := (sar (nth (inn (nth bd 13)) 8)), body := (.stmts (inn (nth (inn (nth bd 13)) 8))), scope := (ssc (nth (inn (nth bd 13)) 9)), globals := 3, closure := [], defaults := .none, kwdefaults := .none, doc := .none, pyModule := (.str (.ofString "bayplan.cargo") 364), annotations := none, code := (.ref 296), closureTuple := .none, builtins := 0 }), #[]⟩
noncomputable def o298_6 (P : Params) : Obj := ⟨(.type "tuple"), none, (.seq #[] 0), #[]⟩
noncomputable def o299_6 (P : Params) : Obj := ⟨.none, none, (.fields #[]), #[]⟩
noncomputable def o300_6 (P : Params) : Obj := ⟨(.type "tuple"), none, (.seq #[(.str (.ofString "self") 582), (.str (.ofString "port") 583)] 0), #[]⟩
noncomputable def o301_6 (P : Params) : Obj := ⟨(.type "tuple"), none, (.seq #[] 0), #[]⟩
noncomputable def o302_6 (P : Params) : Obj := ⟨.none, none, (.func { name := (.ofString "staying_at"), qualname := (.ofString "Voyage.staying_at"), params := (sar (nth (inn (nth bd 13)) 9)), body := (.stmts (inn (nth (inn (nth bd 13)) 9))), scope := (ssc (nth (inn (nth bd 13)) 9)), globals := 0, closure := [], defaults := .none, kwdefaults := .none, doc := .none, pyModule := .none, annotations := none, code := .none, closureTuple := .none, builtins := 0 }), #[]⟩
noncomputable def o303_6 (P : Params) : Obj := ⟨(.type "code"), none, (.fields #[(.str (.ofString "staying_at") 579), (.str (.ofString "Voyage.staying_at") 580), (.str (.ofString "/claim/cut.py") 581), (.int 169 0), (.int 2 0), (.int 0 0), (.int 0 0), (.int 3 0), (.ref 298), (.bool true), (.int 181 0), (.ref 299), .none, (.ref 300), (.ref 301), (.ref 302), (.int 584 0), (.int 169 0), (.str (.ofString "/claim/cut.py") 585)]), #[]⟩
noncomputable def o304_6 (P : Params) : Obj := ⟨(.type "function"), none, (.func { name := (.ofString "staying_at"), qualname := (.ofString "Voyage.staying_at"), params := (sar (nth (inn (nth bd 13)) 9)), body := (.stmts (inn (nth (inn (nth bd 13)) 9))), scope := (ssc (nth (inn (nth bd 13)) 9)), globals := 3, closure := [], defaults := .none, kwdefaults := .none, doc := .none, pyModule := (.str (.ofString "bayplan.cargo") 364), annotations := none, code := (.ref 303), closureTuple := .none, builtins := 0 }), #[]⟩
noncomputable def o305_6 (P : Params) : Obj := ⟨(.type "tuple"), none, (.seq #[] 0), #[]⟩
noncomputable def o306_6 (P : Params) : Obj := ⟨.none, none, (.fields #[]), #[]⟩
noncomputable def o307_6 (P : Params) : Obj := ⟨(.type "tuple"), none, (.seq #[(.str (.ofString "self") 590), (.str (.ofString "leg") 591)] 0), #[]⟩
noncomputable def o308_6 (P : Params) : Obj := ⟨(.type "tuple"), none, (.seq #[] 0), #[]⟩
noncomputable def o309_6 (P : Params) : Obj := ⟨.none, none, (.func { name := (.ofString "weight_on_leg"), qualname := (.ofString "Voyage.weight_on_leg"), params := (sar (nth (inn (nth bd 13)) 10)), body := (.stmts (inn (nth (inn (nth bd 13)) 10))), scope := (ssc (nth (inn (nth bd 13)) 10)), globals := 0, closure := [], defaults := .none, kwdefaults := .none, doc := .none, pyModule := .none, annotations := none, code := .none, closureTuple := .none, builtins := 0 }), #[]⟩
noncomputable def o310_6 (P : Params) : Obj := ⟨(.type "code"), none, (.fields #[(.str (.ofString "weight_on_leg") 587), (.str (.ofString "Voyage.weight_on_leg") 588), (.str (.ofString "/claim/cut.py") 589), (.int 172 0), (.int 2 0), (.int 0 0), (.int 0 0), (.int 3 0), (.ref 305), (.bool true), (.int 181 0), (.ref 306), .none, (.ref 307), (.ref 308), (.ref 309), (.int 592 0), (.int 172 0), (.str (.ofString "/claim/cut.py") 593)]), #[]⟩
noncomputable def o311_6 (P : Params) : Obj := ⟨(.type "function"), none, (.func { name := (.ofString "weight_on_leg"), qualname := (.ofString "Voyage.weight_on_leg"), params := (sar (nth (inn (nth bd 13)) 10)), body := (.stmts (inn (nth (inn (nth bd 13)) 10))), scope := (ssc (nth (inn (nth bd 13)) 10)), globals := 3, closure := [], defaults := .none, kwdefaults := .none, doc := .none, pyModule := (.str (.ofString "bayplan.cargo") 364), annotations := none, code := (.ref 310), closureTuple := .none, builtins := 0 }), #[]⟩
noncomputable def o312_6 (P : Params) : Obj := ⟨(.type "tuple"), none, (.seq #[] 0), #[]⟩
noncomputable def o313_6 (P : Params) : Obj := ⟨.none, none, (.fields #[]), #[]⟩
noncomputable def o314_6 (P : Params) : Obj := ⟨.none, none, (.func { name := (.ofString "units"), qualname := (.ofString "Voyage.units"), params := (sar (nth (inn (nth bd 13)) 11)), body := (.stmts (inn (nth (inn (nth bd 13)) 11))), scope := (ssc (nth (inn (nth bd 13)) 11)), globals := 0, closure := [], defaults := .none, kwdefaults := .none, doc := .none, pyModule := .none, annotations := none, code := .none, closureTuple := .none, builtins := 0 }), #[]⟩
noncomputable def o315_6 (P : Params) : Obj := ⟨(.type "code"), none, (.fields #[(.str (.ofString "units") 595), (.str (.ofString "Voyage.units") 596), (.str (.ofString "/claim/cut.py") 597), (.int 175 0), (.int 2 0), (.int 0 0), (.int 0 0), (.int 3 0), (.ref 312), (.bool true), (.int 181 0), (.ref 313), .none, .none, .none, (.ref 314), (.int 598 0), (.int 175 0), (.str (.ofString "/claim/cut.py") 599)]), #[]⟩
noncomputable def o316_6 (P : Params) : Obj := ⟨(.type "function"), none, (.func { name := (.ofString "units"), qualname := (.ofString "Voyage.units"), params := (sar (nth (inn (nth bd 13)) 11)), body := (.stmts (inn (nth (inn (nth bd 13)) 11))), scope := (ssc (nth (inn (nth bd 13)) 11)), globals := 3, closure := [], defaults := .none, kwdefaults := .none, doc := .none, pyModule := (.str (.ofString "bayplan.cargo") 364), annotations := none, code := (.ref 315), closureTuple := .none, builtins := 0 }), #[]⟩
noncomputable def o317_6 (P : Params) : Obj := ⟨(.type "tuple"), none, (.seq #[(.str (.ofString "containers") 601), (.str (.ofString "ports") 602)] 0), #[]⟩
noncomputable def o318_6 (P : Params) : Obj := ⟨(.type "dict"), none, (.dict #[en P (.ofString "__module__") 507 (.str (.ofString "bayplan.cargo") 364), en P (.ofString "__firstlineno__") 511 (.int 127 510), en P (.ofString "__init__") 517 (.ref 243), en P (.ofString "legs") 524 (.ref 250), en P (.ofString "port") 533 (.ref 257), en P (.ofString "add") 541 (.ref 264), en P (.ofString "get") 549 (.ref 271), en P (.ofString "names") 556 (.ref 278), en P (.ofString "on_leg") 562 (.ref 283), en P (.ofString "loaded_at") 570 (.ref 290), en P (.ofString "discharged_at") 578 (.ref 297), en P (.ofString "staying_at") 586 (.ref 304), en P (.ofString "weight_on_leg") 594 (.ref 311), en P (.ofString "units") 600 (.ref 316), en P (.ofString "__static_attributes__") 603 (.ref 317), en P (.ofString "__dict__") 605 (.ref 320), en P (.ofString "__weakref__") 607 (.ref 321), en P (.ofString "__doc__") 608 .none] 4), #[]⟩
noncomputable def o319_6 (P : Params) : Obj := ⟨(.type "type"), none, (.cls { name := (.ofString "Voyage"), bases := [(.type "object")], mro := [(.ref 319), (.type "object")], ns := 318, qualname := (.ofString "Voyage"), hasDict := true, slotNames := [], subclasses := [], abstract := false, collection := none, hasDel := false }), #[none, none, (some (.str (.ofString "Voyage") 500)), (some (.str (.ofString "Voyage") 508)), (some (.builtin "object.__new__")), (some (.bool true))]⟩
noncomputable def o320_6 (P : Params) : Obj := ⟨(.type "getset_descriptor"), none, (.fields #[(.str (.ofString "__dict__") 604), (.ref 319), (.builtin "function.__dict__"), (.builtin "function.__dict__#set")]), #[]⟩
noncomputable def o321_6 (P : Params) : Obj := ⟨(.type "getset_descriptor"), none, (.fields #[(.str (.ofString "__weakref__") 606), (.ref 319), (.builtin "ExceptionGroup.__weakref__"), .none]), #[]⟩
noncomputable def o322_6 (P : Params) : Obj := ⟨(.type "super"), none, (.fields #[(.ref 319), (.ref 319), (.ref 319)]), #[]⟩
noncomputable def o323_6 (P : Params) : Obj := ⟨(.type "builtin_function_or_method"), none, (.fields #[(.builtin "object.__init_subclass__"), (.ref 319)]), #[]⟩
noncomputable def T5 (P : Params) : BT := (.node (PySem.W.boot_o_0 P) (.node (PySem.W.boot_o_1 P) (.node (o3_6 P) (.node (PySem.W.boot_o_7 P) (.node (o15_2 P) (.node (o31_3 P) (.node (o63_4 P) (.node (o127_4 P) (.node (o255_6 P) .nil .nil) .nil) (.node (o191_5 P) (.node (o319_6 P) .nil .nil) .nil)) (.node (o95_4 P) (.node (o159_5 P) (.node (o287_6 P) .nil .nil) .nil) (.node (o223_5 P) .nil .nil))) (.node (o47_3 P) (.node (o79_4 P) (.node (o143_4 P) (.node (o271_6 P) .nil .nil) .nil) (.node (o207_5 P) .nil .nil)) (.node (o111_4 P) (.node (o175_5 P) (.node (o303_6 P) .nil .nil) .nil) (.node (o239_6 P) .nil .nil)))) (.node (o23_2 P) (.node (o39_2 P) (.node (o71_4 P) (.node (o135_4 P) (.node (o263_6 P) .nil .nil) .nil) (.node (o199_5 P) .nil .nil)) (.node (o103_4 P) (.node (o167_5 P) (.node (o295_6 P) .nil .nil) .nil) (.node (o231_5 P) .nil .nil))) (.node (o55_3 P) (.node (o87_4 P) (.node (o151_5 P) (.node (o279_6 P) .nil .nil) .nil) (.node (o215_5 P) .nil .nil)) (.node (o119_4 P) (.node (o183_5 P) (.node (o311_6 P) .nil .nil) .nil) (.node (o247_6 P) .nil .nil))))) (.node (o11_0 P) (.node (o19_2 P) (.node (o35_2 P) (.node (o67_4 P) (.node (o131_4 P) (.node (o259_6 P) .nil .nil) .nil) (.node (o195_5 P) (.node (o323_6 P) .nil .nil) .nil)) (.node (o99_4 P) (.node (o163_5 P) (.node (o291_6 P) .nil .nil) .nil) (.node (o227_5 P) .nil .nil))) (.node (o51_3 P) (.node (o83_4 P) (.node (o147_5 P) (.node (o275_6 P) .nil .nil) .nil) (.node (o211_5 P) .nil .nil)) (.node (o115_4 P) (.node (o179_5 P) (.node (o307_6 P) .nil .nil) .nil) (.node (o243_6 P) .nil .nil)))) (.node (o27_2 P) (.node (o43_2 P) (.node (o75_4 P) (.node (o139_4 P) (.node (o267_6 P) .nil .nil) .nil) (.node (o203_5 P) .nil .nil)) (.node (o107_4 P) (.node (o171_5 P) (.node (o299_6 P) .nil .nil) .nil) (.node (o235_6 P) .nil .nil))) (.node (o59_4 P) (.node (o91_4 P) (.node (o155_5 P) (.node (o283_6 P) .nil .nil) .nil) (.node (o219_5 P) .nil .nil)) (.node (o123_4 P) (.node (o187_5 P) (.node (o315_6 P) .nil .nil) .nil) (.node (o251_6 P) .nil .nil)))))) (.node (PySem.W.boot_o_5 P) (.node (PySem.W.boot_o_9 P) (.node (o17_2 P) (.node (o33_2 P) (.node (o65_4 P) (.node (o129_4 P) (.node (o257_6 P) .nil .nil) .nil) (.node (o193_5 P) (.node (o321_6 P) .nil .nil) .nil)) (.node (o97_4 P) (.node (o161_5 P) (.node (o289_6 P) .nil .nil) .nil) (.node (o225_5 P) .nil .nil))) (.node (o49_3 P) (.node (o81_4 P) (.node (o145_4 P) (.node (o273_6 P) .nil .nil) .nil) (.node (o209_5 P) .nil .nil)) (.node (o113_4 P) (.node (o177_5 P) (.node (o305_6 P) .nil .nil) .nil) (.node (o241_6 P) .nil .nil)))) (.node (o25_2 P) (.node (o41_2 P) (.node (o73_4 P) (.node (o137_4 P) (.node (o265_6 P) .nil .nil) .nil) (.node (o201_5 P) .nil .nil)) (.node (o105_4 P) (.node (o169_5 P) (.node (o297_6 P) .nil .nil) .nil) (.node (o233_6 P) .nil .nil))) (.node (o57_3 P) (.node (o89_4 P) (.node (o153_5 P) (.node (o281_6 P) .nil .nil) .nil) (.node (o217_5 P) .nil .nil)) (.node (o121_4 P) (.node (o185_5 P) (.node (o313_6 P) .nil .nil) .nil) (.node (o249_6 P) .nil .nil))))) (.node (o13_0 P) (.node (o21_2 P) (.node (o37_2 P) (.node (o69_4 P) (.node (o133_4 P) (.node (o261_6 P) .nil .nil) .nil) (.node (o197_5 P) .nil .nil)) (.node (o101_4 P) (.node (o165_5 P) (.node (o293_6 P) .nil .nil) .nil) (.node (o229_5 P) .nil .nil))) (.node (o53_3 P) (.node (o85_4 P) (.node (o149_5 P) (.node (o277_6 P) .nil .nil) .nil) (.node (o213_5 P) .nil .nil)) (.node (o117_4 P) (.node (o181_5 P) (.node (o309_6 P) .nil .nil) .nil) (.node (o245_6 P) .nil .nil)))) (.node (o29_2 P) (.node (o45_2 P) (.node (o77_4 P) (.node (o141_4 P) (.node (o269_6 P) .nil .nil) .nil) (.node (o205_5 P) .nil .nil)) (.node (o109_4 P) (.node (o173_5 P) (.node (o301_6 P) .nil .nil) .nil) (.node (o237_6 P) .nil .nil))) (.node (o61_4 P) (.node (o93_4 P) (.node (o157_5 P) (.node (o285_6 P) .nil .nil) .nil) (.node (o221_5 P) .nil .nil)) (.node (o125_4 P) (.node (o189_5 P) (.node (o317_6 P) .nil .nil) .nil) (.node (o253_6 P) .nil .nil))))))) (.node (o2_2 P) (.node (PySem.W.boot_o_4 P) (.node (PySem.W.boot_o_8 P) (.node (o16_2 P) (.node (o32_2 P) (.node (o64_4 P) (.node (o128_4 P) (.node (o256_6 P) .nil .nil) .nil) (.node (o192_5 P) (.node (o320_6 P) .nil .nil) .nil)) (.node (o96_4 P) (.node (o160_5 P) (.node (o288_6 P) .nil .nil) .nil) (.node (o224_5 P) .nil .nil))) (.node (o48_3 P) (.node (o80_4 P) (.node (o144_4 P) (.node (o272_6 P) .nil .nil) .nil) (.node (o208_5 P) .nil .nil)) (.node (o112_4 P) (.node (o176_5 P) (.node (o304_6 P) .nil .nil) .nil) (.node (o240_6 P) .nil .nil)))) (.node (o24_2 P) (.node (o40_2 P) (.node (o72_4 P) (.node (o136_4 P) (.node (o264_6 P) .nil .nil) .nil) (.node (o200_5 P) .nil .nil)) (.node (o104_4 P) (.node (o168_5 P) (.node (o296_6 P) .nil .nil) .nil) (.node (o232_6 P) .nil .nil))) (.node (o56_3 P) (.node (o88_4 P) (.node (o152_5 P) (.node (o280_6 P) .nil .nil) .nil) (.node (o216_5 P) .nil .nil)) (.node (o120_4 P) (.node (o184_5 P) (.node (o312_6 P) .nil .nil) .nil) (.node (o248_6 P) .nil .nil))))) (.node (o12_6 P) (.node (o20_2 P) (.node (o36_2 P) (.node (o68_4 P) (.node (o132_4 P) (.node (o260_6 P) .nil .nil) .nil) (.node (o196_5 P) .nil .nil)) (.node (o100_4 P) (.node (o164_5 P) (.node (o292_6 P) .nil .nil) .nil) (.node (o228_5 P) .nil .nil))) (.node (o52_3 P) (.node (o84_4 P) (.node (o148_5 P) (.node (o276_6 P) .nil .nil) .nil) (.node (o212_5 P) .nil .nil)) (.node (o116_4 P) (.node (o180_5 P) (.node (o308_6 P) .nil .nil) .nil) (.node (o244_6 P) .nil .nil)))) (.node (o28_2 P) (.node (o44_2 P) (.node (o76_4 P) (.node (o140_4 P) (.node (o268_6 P) .nil .nil) .nil) (.node (o204_5 P) .nil .nil)) (.node (o108_4 P) (.node (o172_5 P) (.node (o300_6 P) .nil .nil) .nil) (.node (o236_6 P) .nil .nil))) (.node (o60_4 P) (.node (o92_4 P) (.node (o156_5 P) (.node (o284_6 P) .nil .nil) .nil) (.node (o220_5 P) .nil .nil)) (.node (o124_4 P) (.node (o188_5 P) (.node (o316_6 P) .nil .nil) .nil) (.node (o252_6 P) .nil .nil)))))) (.node (PySem.W.boot_o_6 P) (.node (PySem.W.boot_o_10 P) (.node (o18_2 P) (.node (o34_2 P) (.node (o66_4 P) (.node (o130_4 P) (.node (o258_6 P) .nil .nil) .nil) (.node (o194_5 P) (.node (o322_6 P) .nil .nil) .nil)) (.node (o98_4 P) (.node (o162_5 P) (.node (o290_6 P) .nil .nil) .nil) (.node (o226_5 P) .nil .nil))) (.node (o50_3 P) (.node (o82_4 P) (.node (o146_4 P) (.node (o274_6 P) .nil .nil) .nil) (.node (o210_5 P) .nil .nil)) (.node (o114_4 P) (.node (o178_5 P) (.node (o306_6 P) .nil .nil) .nil) (.node (o242_6 P) .nil .nil)))) (.node (o26_2 P) (.node (o42_2 P) (.node (o74_4 P) (.node (o138_4 P) (.node (o266_6 P) .nil .nil) .nil) (.node (o202_5 P) .nil .nil)) (.node (o106_4 P) (.node (o170_5 P) (.node (o298_6 P) .nil .nil) .nil) (.node (o234_6 P) .nil .nil))) (.node (o58_3 P) (.node (o90_4 P) (.node (o154_5 P) (.node (o282_6 P) .nil .nil) .nil) (.node (o218_5 P) .nil .nil)) (.node (o122_4 P) (.node (o186_5 P) (.node (o314_6 P) .nil .nil) .nil) (.node (o250_6 P) .nil .nil))))) (.node (o14_0 P) (.node (o22_2 P) (.node (o38_2 P) (.node (o70_4 P) (.node (o134_4 P) (.node (o262_6 P) .nil .nil) .nil) (.node (o198_5 P) .nil .nil)) (.node (o102_4 P) (.node (o166_5 P) (.node (o294_6 P) .nil .nil) .nil) (.node (o230_5 P) .nil .nil))) (.node (o54_3 P) (.node (o86_4 P) (.node (o150_5 P) (.node (o278_6 P) .nil .nil) .nil) (.node (o214_5 P) .nil .nil)) (.node (o118_4 P) (.node (o182_5 P) (.node (o310_6 P) .nil .nil) .nil) (.node (o246_6 P) .nil .nil)))) (.node (o30_2 P) (.node (o46_2 P) (.node (o78_4 P) (.node (o142_4 P) (.node (o270_6 P) .nil .nil) .nil) (.node (o206_5 P) .nil .nil)) (.node (o110_4 P) (.node (o174_5 P) (.node (o302_6 P) .nil .nil) .nil) (.node (o238_6 P) .nil .nil))) (.node (o62_4 P) (.node (o94_4 P) (.node (o158_5 P) (.node (o286_6 P) .nil .nil) .nil) (.node (o222_5 P) .nil .nil)) (.node (o126_4 P) (.node (o190_5 P) (.node (o318_6 P) .nil .nil) .nil) (.node (o254_6 P) .nil .nil))))))))
noncomputable def o3_7 (P : Params) : Obj := ⟨(.type "dict"), none, (.dict #[en P (.ofString "__name__") 165 (.str (.ofString "bayplan.booking") 611), en P (.ofString "__doc__") 166 .none, en P (.ofString "__package__") 167 .none, en P (.ofString "__loader__") 168 (.builtin "__main__.__loader__#opaque"), en P (.ofString "__spec__") 169 .none, en P (.ofString "__annotations__") 170 (.ref 6), en P (.ofString "__builtins__") 171 (.ref 4), en P (.ofString "__file__") 173 (.str (.ofString "/claim/cut.py") 172), en P (.ofString "__cached__") 174 .none, en P (.ofString "_wall") 193 (.ref 21), en P (.ofString "StowError") 215 (.ref 31), en P (.ofString "ShipError") 231 (.ref 44), en P (.ofString "CargoError") 247 (.ref 56), en P (.ofString "Ship") 363 (.ref 134), en P (.ofString "SHORT") 367 (.int 20 366), en P (.ofString "LONG") 369 (.int 40 368), en P (.ofString "HEIGHTS") 376 (.ref 139), en P (.ofString "is_word") 383 (.ref 146), en P (.ofString "Container") 499 (.ref 227), en P (.ofString "Voyage") 610 (.ref 319), en P (.ofString "Booking") 671 (.ref 368)] 21), #[]⟩
noncomputable def o12_7 (P : Params) : Obj := ⟨.none, none, (.fields #[(.int 1 0), (.int 0 0), (.ref 20), (.int 5 0), (.int 0 0), (.ref 27), (.int 7 0), (.int 0 0), (.ref 40), (.int 9 0), (.int 0 0), (.ref 52), (.int 12 0), (.int 0 0), (.ref 64), (.int 69 0), (.int 0 0), (.ref 145), (.int 71 0), (.int 0 0), (.ref 152), (.int 127 0), (.int 0 0), (.ref 237), (.int 178 0), (.int 0 0), (.ref 329)]), #[]⟩
noncomputable def o324_7 (P : Params) : Obj := ⟨(.type "tuple"), none, (.seq #[] 0), #[]⟩
noncomputable def o325_7 (P : Params) : Obj := ⟨(.type "builtin_function_or_method"), none, (.fields #[(.builtin "type.__prepare__"), (.type "type")]), #[]⟩
noncomputable def o326_7 (P : Params) : Obj := ⟨(.type "dict"), none, (.dict #[en P (.ofString "__module__") 620 (.str (.ofString "bayplan.booking") 611), en P (.ofString "__qualname__") 622 (.str (.ofString "Booking") 621), en P (.ofString "__firstlineno__") 624 (.int 178 623), en P (.ofString "__init__") 633 (.ref 337), en P (.ofString "__repr__") 640 (.ref 344), en P (.ofString "units") 647 (.ref 351), en P (.ofString "legs") 654 (.ref 358), en P (.ofString "worth") 661 (.ref 365), en P (.ofString "__static_attributes__") 664 (.ref 366)] 9), #[]⟩
noncomputable def o327_7 (P : Params) : Obj := ⟨(.type "tuple"), none, (.seq #[] 0), #[]⟩
noncomputable def o328_7 (P : Params) : Obj := ⟨.none, none, (.fields #[(.int 180 0), (.int 4 0), (.ref 336), (.int 186 0), (.int 4 0), (.ref 343), (.int 189 0), (.int 4 0), (.ref 350), (.int 192 0), (.int 4 0), (.ref 357), (.int 195 0), (.int 4 0), (.ref 364)]), #[]⟩
noncomputable def o329_7 (P : Params) : Obj := ⟨(.type "code"), none, (.fields #[(.str (.ofString "Booking") 615), (.str (.ofString "Booking") 616), (.str (.ofString "/claim/cut.py") 617), (.int 178 0), (.int 0 0), (.int 0 0), (.int 0 0), (.int 0 0), (.ref 327), (.bool false), (.int 181 0), (.ref 328), .none, .none, .none, .none, (.int 618 0), (.int 178 0), (.str (.ofString "/claim/cut.py") 619)]), #[]⟩
noncomputable def o330_7 (P : Params) : Obj := ⟨(.type "frame"), none, .plain, #[(some (.ref 329)), (some (.ref 3)), (some (.ref 326)), none, (some (.str (.ofString "bayplan.booking") 611)), none, (some (.ref 0))]⟩
noncomputable def o331_7 (P : Params) : Obj := ⟨(.type "tuple"), none, (.seq #[] 0), #[]⟩
noncomputable def o332_7 (P : Params) : Obj := ⟨.none, none, (.fields #[]), #[]⟩
noncomputable def o333_7 (P : Params) : Obj := ⟨(.type "tuple"), none, (.seq #[(.str (.ofString "self") 628), (.str (.ofString "container") 629), (.str (.ofString "fee") 630)] 0), #[]⟩
noncomputable def o334_7 (P : Params) : Obj := ⟨(.type "tuple"), none, (.seq #[] 0), #[]⟩
noncomputable def o335_7 (P : Params) : Obj := ⟨.none, none, (.func { name := (.ofString "__init__"), qualname := (.ofString "Booking.__init__"), params := (sar (nth (inn (nth bd 15)) 0)), body := (.stmts (inn (nth (inn (nth bd 15)) 0))), scope := (ssc (nth (inn (nth bd 15)) 0)), globals := 0, closure := [], defaults := .none, kwdefaults := .none, doc := .none, pyModule := .none, annotations := none, code := .none, closureTuple := .none, builtins := 0 }), #[]⟩
noncomputable def o336_7 (P : Params) : Obj := ⟨(.type "code"), none, (.fields #[(.str (.ofString "__init__") 625), (.str (.ofString "Booking.__init__") 626), (.str (.ofString "/claim/cut.py") 627), (.int 180 0), (.int 3 0), (.int 0 0), (.int 0 0), (.int 3 0), (.ref 331), (.bool true), (.int 181 0), (.ref 332), .none, (.ref 333), (.ref 334), (.ref 335), (.int 631 0), (.int 180 0), (.str (.ofString "/claim/cut.py") 632)]), #[]⟩
noncomputable def o337_7 (P : Params) : Obj := ⟨(.type "function"), none, (.func { name := (.ofString "__init__"), qualname := (.ofString "Booking.__init__"), params := (sar (nth (inn (nth bd 15)) 0)), body := (.stmts (inn (nth (inn (nth bd 15)) 0))), scope := (ssc (nth (inn (nth bd 15)) 0)), globals := 3, closure := [], defaults := .none, kwdefaults := .none, doc := .none, pyModule := (.str (.ofString "bayplan.booking") 611), annotations := none, code := (.ref 336), closureTuple := .none, builtins := 0 }), #[]⟩
noncomputable def o338_7 (P : Params) : Obj := ⟨(.type "tuple"), none, (.seq #[] 0), #[]⟩
noncomputable def o339_7 (P : Params) : Obj := ⟨.none, none, (.fields #[]), #[]⟩
noncomputable def o340_7 (P : Params) : Obj := ⟨(.type "tuple"), none, (.seq #[(.str (.ofString "self") 637)] 0), #[]⟩
noncomputable def o341_7 (P : Params) : Obj := ⟨(.type "tuple"), none, (.seq #[] 0), #[]⟩
noncomputable def o342_7 (P : Params) : Obj := ⟨.none, none, (.func { name := (.ofString "__repr__"), qualname := (.ofString "Booking.__repr__"), params := (sar (nth (inn (nth bd 15)) 1)), body := (.stmts (inn (nth (inn (nth bd 15)) 1))), scope := (ssc (nth (inn (nth bd 15)) 1)), globals := 0, closure := [], defaults := .none, kwdefaults := .none, doc := .none, pyModule := .none, annotations := none, code := .none, closureTuple := .none, builtins := 0 }), #[]⟩
noncomputable def o343_7 (P : Params) : Obj := ⟨(.type "code"), none, (.fields #[(.str (.ofString "__repr__") 634), (.str (.ofString "Booking.__repr__") 635), (.str (.ofString "/claim/cut.py") 636), (.int 186 0), (.int 1 0), (.int 0 0), (.int 0 0), (.int 3 0), (.ref 338), (.bool true), (.int 181 0), (.ref 339), .none, (.ref 340), (.ref 341), (.ref 342), (.int 638 0), (.int 186 0), (.str (.ofString "/claim/cut.py") 639)]), #[]⟩
noncomputable def o344_7 (P : Params) : Obj := ⟨(.type "function"), none, (.func { name := (.ofString "__repr__"), qualname := (.ofString "Booking.__repr__"), params := (sar (nth (inn (nth bd 15)) 1)), body := (.stmts (inn (nth (inn (nth bd 15)) 1))), scope := (ssc (nth (inn (nth bd 15)) 1)), globals := 3, closure := [], defaults := .none, kwdefaults := .none, doc := .none, pyModule := (.str (.ofString "bayplan.booking") 611), annotations := none, code := (.ref 343), closureTuple := .none, builtins := 0 }), #[]⟩
noncomputable def o345_7 (P : Params) : Obj := ⟨(.type "tuple"), none, (.seq #[] 0), #[]⟩
noncomputable def o346_7 (P : Params) : Obj := ⟨.none, none, (.fields #[]), #[]⟩
noncomputable def o347_7 (P : Params) : Obj := ⟨(.type "tuple"), none, (.seq #[(.str (.ofString "self") 644)] 0), #[]⟩
noncomputable def o348_7 (P : Params) : Obj := ⟨(.type "tuple"), none, (.seq #[] 0), #[]⟩
noncomputable def o349_7 (P : Params) : Obj := ⟨.none, none, (.func { name := (.ofString "units"), qualname := (.ofString "Booking.units"), params := (sar (nth (inn (nth bd 15)) 2)), body := (.stmts (inn (nth (inn (nth bd 15)) 2))), scope := (ssc (nth (inn (nth bd 15)) 2)), globals := 0, closure := [], defaults := .none, kwdefaults := .none, doc := .none, pyModule := .none, annotations := none, code := .none, closureTuple := .none, builtins := 0 }), #[]⟩
noncomputable def o350_7 (P : Params) : Obj := ⟨(.type "code"), none, (.fields #[(.str (.ofString "units") 641), (.str (.ofString "Booking.units") 642), (.str (.ofString "/claim/cut.py") 643), (.int 189 0), (.int 1 0), (.int 0 0), (.int 0 0), (.int 3 0), (.ref 345), (.bool true), (.int 181 0), (.ref 346), .none, (.ref 347), (.ref 348), (.ref 349), (.int 645 0), (.int 189 0), (.str (.ofString "/claim/cut.py") 646)]), #[]⟩
noncomputable def o351_7 (P : Params) : Obj := ⟨(.type "function"), none, (.func { name := (.ofString "units"), qualname := (.ofString "Booking.units"), params := (sar (nth (inn (nth bd 15)) 2)), body := (.stmts (inn (nth (inn (nth bd 15)) 2))), scope := (ssc (nth (inn (nth bd 15)) 2)), globals := 3, closure := [], defaults := .none, kwdefaults := .none, doc := .none, pyModule := (.str (.ofString "bayplan.booking") 611), annotations := none, code := (.ref 350), closureTuple := .none, builtins := 0 }), #[]⟩
noncomputable def o352_7 (P : Params) : Obj := ⟨(.type "tuple"), none, (.seq #[] 0), #[]⟩
noncomputable def o353_7 (P : Params) : Obj := ⟨.none, none, (.fields #[]), #[]⟩
noncomputable def o354_7 (P : Params) : Obj := ⟨(.type "tuple"), none, (.seq #[(.str (.ofString "self") 651)] 0), #[]⟩
noncomputable def o355_7 (P : Params) : Obj := ⟨(.type "tuple"), none, (.seq #[] 0), #[]⟩
noncomputable def o356_7 (P : Params) : Obj := ⟨.none, none, (.func { name := (.ofString "legs"), qualname := (.ofString "Booking.legs"), params := (sar (nth (inn (nth bd 15)) 3)), body := (.stmts (inn (nth (inn (nth bd 15)) 3))), scope := (ssc (nth (inn (nth bd 15)) 3)), globals := 0, closure := [], defaults := .none, kwdefaults := .none, doc := .none, pyModule := .none, annotations := none, code := .none, closureTuple := .none, builtins := 0 }), #[]⟩
noncomputable def o357_7 (P : Params) : Obj := ⟨(.type "code"), none, (.fields #[(.str (.ofString "legs") 648), (.str (.ofString "Booking.legs") 649), (.str (.ofString "/claim/cut.py") 650), (.int 192 0), (.int 1 0), (.int 0 0), (.int 0 0), (.int 3 0), (.ref 352), (.bool true), (.int 181 0), (.ref 353), .none, (.ref 354), (.ref 355), (.ref 356), (.int 652 0), (.int 192 0), (.str (.ofString "/claim/cut.py") 653)]), #[]⟩
noncomputable def o358_7 (P : Params) : Obj := ⟨(.type "function"), none, (.func { name := (.ofString "legs"), qualname := (.ofString "Booking.legs"), params := (sar (nth (inn (nth bd 15)) 3)), body := (.stmts (inn (nth (inn (nth bd 15)) 3))), scope := (ssc (nth (inn (nth bd 15)) 3)), globals := 3, closure := [], defaults := .none, kwdefaults := .none, doc := .none, pyModule := (.str (.ofString "bayplan.booking") 611), annotations := none, code := (.ref 357), closureTuple := .none, builtins := 0 }), #[]⟩
noncomputable def o359_7 (P : Params) : Obj := ⟨(.type "tuple"), none, (.seq #[] 0), #[]⟩
noncomputable def o360_7 (P : Params) : Obj := ⟨.none, none, (.fields #[]), #[]⟩
noncomputable def o361_7 (P : Params) : Obj := ⟨(.type "tuple"), none, (.seq #[(.str (.ofString "self") 658)] 0), #[]⟩
noncomputable def o362_7 (P : Params) : Obj := ⟨(.type "tuple"), none, (.seq #[] 0), #[]⟩
noncomputable def o363_7 (P : Params) : Obj := ⟨.none, none, (.func { name := (.ofString "worth"), qualname := (.ofString "Booking.worth"), params := (sar (nth (inn (nth bd 15)) 4)), body := (.stmts (inn (nth (inn (nth bd 15)) 4))), scope := (ssc (nth (inn (nth bd 16)) 1)), globals := 0, closure := [], defaults := .none, kwdefaults := .none, doc := .none, pyModule := .none, annotations := none, code := .none, closureTuple := .none, builtins := 0 }), #[]⟩
noncomputable def o364_7 (P : Params) : Obj := ⟨(.type "code"), none, (.fields #[(.str (.ofString "worth") 655), (.str (.ofString "Booking.worth") 656), (.str (.ofString "/claim/cut.py") 657), (.int 195 0), (.int 1 0), (.int 0 0), (.int 0 0), (.int 3 0), (.ref 359), (.bool true), (.int 181 0), (.ref 360), .none, (.ref 361), (.ref 362), (.ref 363), (.int 659 0), (.int 195 0), (.str (.ofString "/claim/cut.py") 660)]), #[]⟩
noncomputable def o365_7 (P : Params) : Obj := ⟨(.type "function"), none, (.func { name := (.ofString "worth"), qualname := (.ofString "Booking.worth"), params := (sar (nth (inn (nth bd 15)) 4)), body := (.stmts (inn (nth (inn (nth bd 15)) 4))), scope := (ssc (nth (inn (nth bd 16)) 1)), globals := 3, closure := [], defaults := .none, kwdefaults := .none, doc := .none, pyModule := (.str (.ofString "bayplan.booking") 611), annotations := none, code := (.ref 364), closureTuple := .none, builtins := 0 }), #[]⟩
noncomputable def o366_7 (P : Params) : Obj := ⟨(.type "tuple"), none, (.seq #[(.str (.ofString "container") 662), (.str (.ofString "fee") 663)] 0), #[]⟩
noncomputable def o367_7 (P : Params) : Obj := ⟨(.type "dict"), none, (.dict #[en P (.ofString "__module__") 620 (.str (.ofString "bayplan.booking") 611), en P (.ofString "__firstlineno__") 624 (.int 178 623), en P (.ofString "__init__") 633 (.ref 337), en P (.ofString "__repr__") 640 (.ref 344), en P (.ofString "units") 647 (.ref 351), en P (.ofString "legs") 654 (.ref 358), en P (.ofString "worth") 661 (.ref 365), en P (.ofString "__static_attributes__") 664 (.ref 366), en P (.ofString "__dict__") 666 (.ref 369), en P (.ofString "__weakref__") 668 (.ref 370), en P (.ofString "__doc__") 669 .none] 4), #[]⟩
noncomputable def o368_7 (P : Params) : Obj := ⟨(.type "type"), none, (.cls { name := (.ofString "Booking"), bases := [(.type "object")], mro := [(.ref 368), (.type "object")], ns := 367, qualname := (.ofString "Booking"), hasDict := true, slotNames := [], subclasses := [], abstract := false, collection := none, hasDel := false }), #[none, none, (some (.str (.ofString "Booking") 613)), (some (.str (.ofString "Booking") 621)), (some (.builtin "object.__new__")), (some (.bool true))]⟩
noncomputable def o369_7 (P : Params) : Obj := ⟨(.type "getset_descriptor"), none, (.fields #[(.str (.ofString "__dict__") 665), (.ref 368), (.builtin "function.__dict__"), (.builtin "function.__dict__#set")]), #[]⟩
noncomputable def o370_7 (P : Params) : Obj := ⟨(.type "getset_descriptor"), none, (.fields #[(.str (.ofString "__weakref__") 667), (.ref 368), (.builtin "ExceptionGroup.__weakref__"), .none]), #[]⟩
noncomputable def o371_7 (P : Params) : Obj := ⟨(.type "super"), none, (.fields #[(.ref 368), (.ref 368), (.ref 368)]), #[]⟩
noncomputable def o372_7 (P : Params) : Obj := ⟨(.type "builtin_function_or_method"), none, (.fields #[(.builtin "object.__init_subclass__"), (.ref 368)]), #[]⟩
noncomputable def T6 (P : Params) : BT := (.node (PySem.W.boot_o_0 P) (.node (PySem.W.boot_o_1 P) (.node (o3_7 P) (.node (PySem.W.boot_o_7 P) (.node (o15_2 P) (.node (o31_3 P) (.node (o63_4 P) (.node (o127_4 P) (.node (o255_6 P) .nil .nil) .nil) (.node (o191_5 P) (.node (o319_6 P) .nil .nil) .nil)) (.node (o95_4 P) (.node (o159_5 P) (.node (o287_6 P) .nil .nil) .nil) (.node (o223_5 P) (.node (o351_7 P) .nil .nil) .nil))) (.node (o47_3 P) (.node (o79_4 P) (.node (o143_4 P) (.node (o271_6 P) .nil .nil) .nil) (.node (o207_5 P) (.node (o335_7 P) .nil .nil) .nil)) (.node (o111_4 P) (.node (o175_5 P) (.node (o303_6 P) .nil .nil) .nil) (.node (o239_6 P) (.node (o367_7 P) .nil .nil) .nil)))) (.node (o23_2 P) (.node (o39_2 P) (.node (o71_4 P) (.node (o135_4 P) (.node (o263_6 P) .nil .nil) .nil) (.node (o199_5 P) (.node (o327_7 P) .nil .nil) .nil)) (.node (o103_4 P) (.node (o167_5 P) (.node (o295_6 P) .nil .nil) .nil) (.node (o231_5 P) (.node (o359_7 P) .nil .nil) .nil))) (.node (o55_3 P) (.node (o87_4 P) (.node (o151_5 P) (.node (o279_6 P) .nil .nil) .nil) (.node (o215_5 P) (.node (o343_7 P) .nil .nil) .nil)) (.node (o119_4 P) (.node (o183_5 P) (.node (o311_6 P) .nil .nil) .nil) (.node (o247_6 P) .nil .nil))))) (.node (o11_0 P) (.node (o19_2 P) (.node (o35_2 P) (.node (o67_4 P) (.node (o131_4 P) (.node (o259_6 P) .nil .nil) .nil) (.node (o195_5 P) (.node (o323_6 P) .nil .nil) .nil)) (.node (o99_4 P) (.node (o163_5 P) (.node (o291_6 P) .nil .nil) .nil) (.node (o227_5 P) (.node (o355_7 P) .nil .nil) .nil))) (.node (o51_3 P) (.node (o83_4 P) (.node (o147_5 P) (.node (o275_6 P) .nil .nil) .nil) (.node (o211_5 P) (.node (o339_7 P) .nil .nil) .nil)) (.node (o115_4 P) (.node (o179_5 P) (.node (o307_6 P) .nil .nil) .nil) (.node (o243_6 P) (.node (o371_7 P) .nil .nil) .nil)))) (.node (o27_2 P) (.node (o43_2 P) (.node (o75_4 P) (.node (o139_4 P) (.node (o267_6 P) .nil .nil) .nil) (.node (o203_5 P) (.node (o331_7 P) .nil .nil) .nil)) (.node (o107_4 P) (.node (o171_5 P) (.node (o299_6 P) .nil .nil) .nil) (.node (o235_6 P) (.node (o363_7 P) .nil .nil) .nil))) (.node (o59_4 P) (.node (o91_4 P) (.node (o155_5 P) (.node (o283_6 P) .nil .nil) .nil) (.node (o219_5 P) (.node (o347_7 P) .nil .nil) .nil)) (.node (o123_4 P) (.node (o187_5 P) (.node (o315_6 P) .nil .nil) .nil) (.node (o251_6 P) .nil .nil)))))) (.node (PySem.W.boot_o_5 P) (.node (PySem.W.boot_o_9 P) (.node (o17_2 P) (.node (o33_2 P) (.node (o65_4 P) (.node (o129_4 P) (.node (o257_6 P) .nil .nil) .nil) (.node (o193_5 P) (.node (o321_6 P) .nil .nil) .nil)) (.node (o97_4 P) (.node (o161_5 P) (.node (o289_6 P) .nil .nil) .nil) (.node (o225_5 P) (.node (o353_7 P) .nil .nil) .nil))) (.node (o49_3 P) (.node (o81_4 P) (.node (o145_4 P) (.node (o273_6 P) .nil .nil) .nil) (.node (o209_5 P) (.node (o337_7 P) .nil .nil) .nil)) (.node (o113_4 P) (.node (o177_5 P) (.node (o305_6 P) .nil .nil) .nil) (.node (o241_6 P) (.node (o369_7 P) .nil .nil) .nil)))) (.node (o25_2 P) (.node (o41_2 P) (.node (o73_4 P) (.node (o137_4 P) (.node (o265_6 P) .nil .nil) .nil) (.node (o201_5 P) (.node (o329_7 P) .nil .nil) .nil)) (.node (o105_4 P) (.node (o169_5 P) (.node (o297_6 P) .nil .nil) .nil) (.node (o233_6 P) (.node (o361_7 P) .nil .nil) .nil))) (.node (o57_3 P) (.node (o89_4 P) (.node (o153_5 P) (.node (o281_6 P) .nil .nil) .nil) (.node (o217_5 P) (.node (o345_7 P) .nil .nil) .nil)) (.node (o121_4 P) (.node (o185_5 P) (.node (o313_6 P) .nil .nil) .nil) (.node (o249_6 P) .nil .nil))))) (.node (o13_0 P) (.node (o21_2 P) (.node (o37_2 P) (.node (o69_4 P) (.node (o133_4 P) (.node (o261_6 P) .nil .nil) .nil) (.node (o197_5 P) (.node (o325_7 P) .nil .nil) .nil)) (.node (o101_4 P) (.node (o165_5 P) (.node (o293_6 P) .nil .nil) .nil) (.node (o229_5 P) (.node (o357_7 P) .nil .nil) .nil))) (.node (o53_3 P) (.node (o85_4 P) (.node (o149_5 P) (.node (o277_6 P) .nil .nil) .nil) (.node (o213_5 P) (.node (o341_7 P) .nil .nil) .nil)) (.node (o117_4 P) (.node (o181_5 P) (.node (o309_6 P) .nil .nil) .nil) (.node (o245_6 P) .nil .nil)))) (.node (o29_2 P) (.node (o45_2 P) (.node (o77_4 P) (.node (o141_4 P) (.node (o269_6 P) .nil .nil) .nil) (.node (o205_5 P) (.node (o333_7 P) .nil .nil) .nil)) (.node (o109_4 P) (.node (o173_5 P) (.node (o301_6 P) .nil .nil) .nil) (.node (o237_6 P) (.node (o365_7 P) .nil .nil) .nil))) (.node (o61_4 P) (.node (o93_4 P) (.node (o157_5 P) (.node (o285_6 P) .nil .nil) .nil) (.node (o221_5 P) (.node (o349_7 P) .nil .nil) .nil)) (.node (o125_4 P) (.node (o189_5 P) (.node (o317_6 P) .nil .nil) .nil) (.node (o253_6 P) .nil .nil))))))) (.node (o2_2 P) (.node (PySem.W.boot_o_4 P) (.node (PySem.W.boot_o_8 P) (.node (o16_2 P) (.node (o32_2 P) (.node (o64_4 P) (.node (o128_4 P) (.node (o256_6 P) .nil .nil) .nil) (.node (o192_5 P) (.node (o320_6 P) .nil .nil) .nil)) (.node (o96_4 P) (.node (o160_5 P) (.node (o288_6 P) .nil .nil) .nil) (.node (o224_5 P) (.node (o352_7 P) .nil .nil) .nil))) (.node (o48_3 P) (.node (o80_4 P) (.node (o144_4 P) (.node (o272_6 P) .nil .nil) .nil) (.node (o208_5 P) (.node (o336_7 P) .nil .nil) .nil)) (.node (o112_4 P) (.node (o176_5 P) (.node (o304_6 P) .nil .nil) .nil) (.node (o240_6 P) (.node (o368_7 P) .nil .nil) .nil)))) (.node (o24_2 P) (.node (o40_2 P) (.node (o72_4 P) (.node (o136_4 P) (.node (o264_6 P) .nil .nil) .nil) (.node (o200_5 P) (.node (o328_7 P) .nil .nil) .nil)) (.node (o104_4 P) (.node (o168_5 P) (.node (o296_6 P) .nil .nil) .nil) (.node (o232_6 P) (.node (o360_7 P) .nil .nil) .nil))) (.node (o56_3 P) (.node (o88_4 P) (.node (o152_5 P) (.node (o280_6 P) .nil .nil) .nil) (.node (o216_5 P) (.node (o344_7 P) .nil .nil) .nil)) (.node (o120_4 P) (.node (o184_5 P) (.node (o312_6 P) .nil .nil) .nil) (.node (o248_6 P) .nil .nil))))) (.node (o12_7 P) (.node (o20_2 P) (.node (o36_2 P) (.node (o68_4 P) (.node (o132_4 P) (.node (o260_6 P) .nil .nil) .nil) (.node (o196_5 P) (.node (o324_7 P) .nil .nil) .nil)) (.node (o100_4 P) (.node (o164_5 P) (.node (o292_6 P) .nil .nil) .nil) (.node (o228_5 P) (.node (o356_7 P) .nil .nil) .nil))) (.node (o52_3 P) (.node (o84_4 P) (.node (o148_5 P) (.node (o276_6 P) .nil .nil) .nil) (.node (o212_5 P) (.node (o340_7 P) .nil .nil) .nil)) (.node (o116_4 P) (.node (o180_5 P) (.node (o308_6 P) .nil .nil) .nil) (.node (o244_6 P) (.node (o372_7 P) .nil .nil) .nil)))) (.node (o28_2 P) (.node (o44_2 P) (.node (o76_4 P) (.node (o140_4 P) (.node (o268_6 P) .nil .nil) .nil) (.node (o204_5 P) (.node (o332_7 P) .nil .nil) .nil)) (.node (o108_4 P) (.node (o172_5 P) (.node (o300_6 P) .nil .nil) .nil) (.node (o236_6 P) (.node (o364_7 P) .nil .nil) .nil))) (.node (o60_4 P) (.node (o92_4 P) (.node (o156_5 P) (.node (o284_6 P) .nil .nil) .nil) (.node (o220_5 P) (.node (o348_7 P) .nil .nil) .nil)) (.node (o124_4 P) (.node (o188_5 P) (.node (o316_6 P) .nil .nil) .nil) (.node (o252_6 P) .nil .nil)))))) (.node (PySem.W.boot_o_6 P) (.node (PySem.W.boot_o_10 P) (.node (o18_2 P) (.node (o34_2 P) (.node (o66_4 P) (.node (o130_4 P) (.node (o258_6 P) .nil .nil) .nil) (.node (o194_5 P) (.node (o322_6 P) .nil .nil) .nil)) (.node (o98_4 P) (.node (o162_5 P) (.node (o290_6 P) .nil .nil) .nil) (.node (o226_5 P) (.node (o354_7 P) .nil .nil) .nil))) (.node (o50_3 P) (.node (o82_4 P) (.node (o146_4 P) (.node (o274_6 P) .nil .nil) .nil) (.node (o210_5 P) (.node (o338_7 P) .nil .nil) .nil)) (.node (o114_4 P) (.node (o178_5 P) (.node (o306_6 P) .nil .nil) .nil) (.node (o242_6 P) (.node (o370_7 P) .nil .nil) .nil)))) (.node (o26_2 P) (.node (o42_2 P) (.node (o74_4 P) (.node (o138_4 P) (.node (o266_6 P) .nil .nil) .nil) (.node (o202_5 P) (.node (o330_7 P) .nil .nil) .nil)) (.node (o106_4 P) (.node (o170_5 P) (.node (o298_6 P) .nil .nil) .nil) (.node (o234_6 P) (.node (o362_7 P) .nil .nil) .nil))) (.node (o58_3 P) (.node (o90_4 P) (.node (o154_5 P) (.node (o282_6 P) .nil .nil) .nil) (.node (o218_5 P) (.node (o346_7 P) .nil .nil) .nil)) (.node (o122_4 P) (.node (o186_5 P) (.node (o314_6 P) .nil .nil) .nil) (.node (o250_6 P) .nil .nil))))) (.node (o14_0 P) (.node (o22_2 P) (.node (o38_2 P) (.node (o70_4 P) (.node (o134_4 P) (.node (o262_6 P) .nil .nil) .nil) (.node (o198_5 P) (.node (o326_7 P) .nil .nil) .nil)) (.node (o102_4 P) (.node (o166_5 P) (.node (o294_6 P) .nil .nil) .nil) (.node (o230_5 P) (.node (o358_7 P) .nil .nil) .nil))) (.node (o54_3 P) (.node (o86_4 P) (.node (o150_5 P) (.node (o278_6 P) .nil .nil) .nil) (.node (o214_5 P) (.node (o342_7 P) .nil .nil) .nil)) (.node (o118_4 P) (.node (o182_5 P) (.node (o310_6 P) .nil .nil) .nil) (.node (o246_6 P) .nil .nil)))) (.node (o30_2 P) (.node (o46_2 P) (.node (o78_4 P) (.node (o142_4 P) (.node (o270_6 P) .nil .nil) .nil) (.node (o206_5 P) (.node (o334_7 P) .nil .nil) .nil)) (.node (o110_4 P) (.node (o174_5 P) (.node (o302_6 P) .nil .nil) .nil) (.node (o238_6 P) (.node (o366_7 P) .nil .nil) .nil))) (.node (o62_4 P) (.node (o94_4 P) (.node (o158_5 P) (.node (o286_6 P) .nil .nil) .nil) (.node (o222_5 P) (.node (o350_7 P) .nil .nil) .nil)) (.node (o126_4 P) (.node (o190_5 P) (.node (o318_6 P) .nil .nil) .nil) (.node (o254_6 P) .nil .nil))))))))
noncomputable def o3_8 (P : Params) : Obj := ⟨(.type "dict"), none, (.dict #[en P (.ofString "__name__") 165 (.str (.ofString "law_ui0503_08") 773), en P (.ofString "__doc__") 166 .none, en P (.ofString "__package__") 167 .none, en P (.ofString "__loader__") 168 (.builtin "__main__.__loader__#opaque"), en P (.ofString "__spec__") 169 .none, en P (.ofString "__annotations__") 170 (.ref 6), en P (.ofString "__builtins__") 171 (.ref 4), en P (.ofString "__file__") 173 (.str (.ofString "/claim/cut.py") 172), en P (.ofString "__cached__") 174 .none, en P (.ofString "_wall") 193 (.ref 21), en P (.ofString "StowError") 215 (.ref 31), en P (.ofString "ShipError") 231 (.ref 44), en P (.ofString "CargoError") 247 (.ref 56), en P (.ofString "Ship") 363 (.ref 134), en P (.ofString "SHORT") 367 (.int 20 366), en P (.ofString "LONG") 369 (.int 40 368), en P (.ofString "HEIGHTS") 376 (.ref 139), en P (.ofString "is_word") 383 (.ref 146), en P (.ofString "Container") 499 (.ref 227), en P (.ofString "Voyage") 610 (.ref 319), en P (.ofString "Booking") 671 (.ref 368), en P (.ofString "Book") 760 (.ref 437), en P (.ofString "accept") 772 (.ref 448), en P (.ofString "_law_cell") 782 (.ref 455), en P (.ofString "law") 788 (.ref 460)] 25), #[]⟩
noncomputable def o12_8 (P : Params) : Obj := ⟨.none, none, (.fields #[(.int 1 0), (.int 0 0), (.ref 20), (.int 5 0), (.int 0 0), (.ref 27), (.int 7 0), (.int 0 0), (.ref 40), (.int 9 0), (.int 0 0), (.ref 52), (.int 12 0), (.int 0 0), (.ref 64), (.int 69 0), (.int 0 0), (.ref 145), (.int 71 0), (.int 0 0), (.ref 152), (.int 127 0), (.int 0 0), (.ref 237), (.int 178 0), (.int 0 0), (.ref 329), (.int 197 0), (.int 0 0), (.ref 378), (.int 251 0), (.int 0 0), (.ref 447), (.int 261 0), (.int 0 0), (.ref 454), (.int 265 0), (.int 0 0), (.ref 459)]), #[]⟩
noncomputable def o373_8 (P : Params) : Obj := ⟨(.type "tuple"), none, (.seq #[] 0), #[]⟩
noncomputable def o374_8 (P : Params) : Obj := ⟨(.type "builtin_function_or_method"), none, (.fields #[(.builtin "type.__prepare__"), (.type "type")]), #[]⟩
noncomputable def o375_8 (P : Params) : Obj := ⟨(.type "dict"), none, (.dict #[en P (.ofString "__module__") 679 (.str (.ofString "bayplan.booking") 611), en P (.ofString "__qualname__") 681 (.str (.ofString "Book") 680), en P (.ofString "__firstlineno__") 683 (.int 197 682), en P (.ofString "__init__") 693 (.ref 386), en P (.ofString "legs") 700 (.ref 393), en P (.ofString "used") 706 (.ref 398), en P (.ofString "left") 712 (.ref 403), en P (.ofString "can_take") 718 (.ref 408), en P (.ofString "take") 724 (.ref 413), en P (.ofString "drop") 732 (.ref 420), en P (.ofString "fees") 739 (.ref 427), en P (.ofString "voyage") 748 (.ref 434), en P (.ofString "__static_attributes__") 753 (.ref 435)] 13), #[]⟩
noncomputable def o376_8 (P : Params) : Obj := ⟨(.type "tuple"), none, (.seq #[] 0), #[]⟩
noncomputable def o377_8 (P : Params) : Obj := ⟨.none, none, (.fields #[(.int 199 0), (.int 4 0), (.ref 385), (.int 205 0), (.int 4 0), (.ref 392), (.int 208 0), (.int 4 0), (.ref 397), (.int 215 0), (.int 4 0), (.ref 402), (.int 219 0), (.int 4 0), (.ref 407), (.int 232 0), (.int 4 0), (.ref 412), (.int 240 0), (.int 4 0), (.ref 419), (.int 243 0), (.int 4 0), (.ref 426), (.int 246 0), (.int 4 0), (.ref 433)]), #[]⟩
noncomputable def o378_8 (P : Params) : Obj := ⟨(.type "code"), none, (.fields #[(.str (.ofString "Book") 674), (.str (.ofString "Book") 675), (.str (.ofString "/claim/cut.py") 676), (.int 197 0), (.int 0 0), (.int 0 0), (.int 0 0), (.int 0 0), (.ref 376), (.bool false), (.int 181 0), (.ref 377), .none, .none, .none, .none, (.int 677 0), (.int 197 0), (.str (.ofString "/claim/cut.py") 678)]), #[]⟩
noncomputable def o379_8 (P : Params) : Obj := ⟨(.type "frame"), none, .plain, #[(some (.ref 378)), (some (.ref 3)), (some (.ref 375)), none, (some (.str (.ofString "bayplan.booking") 611)), none, (some (.ref 0))]⟩
noncomputable def o380_8 (P : Params) : Obj := ⟨(.type "tuple"), none, (.seq #[] 0), #[]⟩
noncomputable def o381_8 (P : Params) : Obj := ⟨.none, none, (.fields #[]), #[]⟩
noncomputable def o382_8 (P : Params) : Obj := ⟨(.type "tuple"), none, (.seq #[(.str (.ofString "self") 687), (.str (.ofString "ship") 688), (.str (.ofString "ports") 689), (.str (.ofString "weight") 690)] 0), #[]⟩
noncomputable def o383_8 (P : Params) : Obj := ⟨(.type "tuple"), none, (.seq #[] 0), #[]⟩
noncomputable def o384_8 (P : Params) : Obj := ⟨.none, none, (.func { name := (.ofString "__init__"), qualname := (.ofString "Book.__init__"), params := (sar (nth (inn (nth bd 16)) 0)), body := (.stmts (inn (nth (inn (nth bd 16)) 0))), scope := (ssc (nth (inn (nth bd 16)) 0)), globals := 0, closure := [], defaults := .none, kwdefaults := .none, doc := .none, pyModule := .none, annotations := none, code := .none, closureTuple := .none, builtins := 0 }), #[]⟩
noncomputable def o385_8 (P : Params) : Obj := ⟨(.type "code"), none, (.fields #[(.str (.ofString "__init__") 684), (.str (.ofString "Book.__init__") 685), (.str (.ofString "/claim/cut.py") 686), (.int 199 0), (.int 4 0), (.int 0 0), (.int 0 0), (.int 3 0), (.ref 380), (.bool true), (.int 181 0), (.ref 381), .none, (.ref 382), (.ref 383), (.ref 384), (.int 691 0), (.int 199 0), (.str (.ofString "/claim/cut.py") 692)]), #[]⟩
noncomputable def o386_8 (P : Params) : Obj := ⟨(.type "function"), none, (.func { name := (.ofString "__init__"), qualname := (.ofString "Book.__init__"), params := (sar (nth (inn (nth bd 16)) 0)), body := (.stmts (inn (nth (inn (nth bd 16)) 0))), scope := (ssc (nth (inn (nth bd 16)) 0)), globals := 3, closure := [], defaults := .none, kwdefaults := .none, doc := .none, pyModule := (.str (.ofString "bayplan.booking") 611), annotations := none, code := (.ref 385), closureTuple := .none, builtins := 0 }), #[]⟩
noncomputable def o387_8 (P : Params) : Obj := ⟨(.type "tuple"), none, (.seq #[] 0), #[]⟩
noncomputable def o388_8 (P : Params) : Obj := ⟨.none, none, (.fields #[]), #[]⟩
noncomputable def o389_8 (P : Params) : Obj := ⟨(.type "tuple"), none, (.seq #[(.str (.ofString "self") 697)] 0), #[]⟩
noncomputable def o390_8 (P : Params) : Obj := ⟨(.type "tuple"), none, (.seq #[] 0), #[]⟩
noncomputable def o391_8 (P : Params) : Obj := ⟨.none, none, (.func { name := (.ofString "legs"), qualname := (.ofString "Book.legs"), params := (sar (nth (inn (nth bd 16)) 1)), body := (.stmts (inn (nth (inn (nth bd 16)) 1))), scope := (ssc (nth (inn (nth bd 16)) 1)), globals := 0, closure := [], defaults := .none, kwdefaults := .none, doc := .none, pyModule := .none, annotations := none, code := .none, closureTuple := .none, builtins := 0 }), #[]⟩
noncomputable def o392_8 (P : Params) : Obj := ⟨(.type "code"), none, (.fields #[(.str (.ofString "legs") 694), (.str (.ofString "Book.legs") 695), (.str (.ofString "/claim/cut.py") 696), (.int 205 0), (.int 1 0), (.int 0 0), (.int 0 0), (.int 3 0), (.ref 387), (.bool true), (.int 181 0), (.ref 388), .none, (.ref 389), (.ref 390), (.ref 391), (.int 698 0), (.int 205 0), (.str (.ofString "/claim/cut.py") 699)]), #[]⟩
noncomputable def o393_8 (P : Params) : Obj := ⟨(.type "function"), none, (.func { name := (.ofString "legs"), qualname := (.ofString "Book.legs"), params := (sar (nth (inn (nth bd 16)) 1)), body := (.stmts (inn (nth (inn (nth bd 16)) 1))), scope := (ssc (nth (inn (nth bd 16)) 1)), globals := 3, closure := [], defaults := .none, kwdefaults := .none, doc := .none, pyModule := (.str (.ofString "bayplan.booking") 611), annotations := none, code := (.ref 392), closureTuple := .none, builtins := 0 }), #[]⟩
noncomputable def o394_8 (P : Params) : Obj := ⟨(.type "tuple"), none, (.seq #[] 0), #[]⟩
noncomputable def o395_8 (P : Params) : Obj := ⟨.none, none, (.fields #[]), #[]⟩
noncomputable def o396_8 (P : Params) : Obj := ⟨.none, none, (.func { name := (.ofString "used"), qualname := (.ofString "Book.used"), params := (sar (nth (inn (nth bd 16)) 2)), body := (.stmts (inn (nth (inn (nth bd 16)) 2))), scope := (ssc (nth (inn (nth bd 16)) 2)), globals := 0, closure := [], defaults := .none, kwdefaults := .none, doc := .none, pyModule := .none, annotations := none, code := .none, closureTuple := .none, builtins := 0 }), #[]⟩
noncomputable def o397_8 (P : Params) : Obj := ⟨(.type "code"), none, (.fields #[(.str (.ofString "used") 701), (.str (.ofString "Book.used") 702), (.str (.ofString "/claim/cut.py") 703), (.int 208 0), (.int 2 0), (.int 0 0), (.int 0 0), (.int 3 0), (.ref 394), (.bool true), (.int 181 0), (.ref 395), .none, .none, .none, (.ref 396), (.int 704 0), (.int 208 0), (.str (.ofString "/claim/cut.py") 705)]), #[]⟩
noncomputable def o398_8 (P : Params) : Obj := ⟨(.type "function"), none, (.func { name := (.ofString "used"), qualname := (.ofString "Book.used"), params := (sar (nth (inn (nth bd 16)) 2)), body := (.stmts (inn (nth (inn (nth bd 16)) 2))), scope := (ssc (nth (inn (nth bd 16)) 2)), globals := 3, closure := [], defaults := .none, kwdefaults := .none, doc := .none, pyModule := (.str (.ofString "bayplan.booking") 611), annotations := none, code := (.ref 397), closureTuple := .none, builtins := 0 }), #[]⟩
noncomputable def o399_8 (P : Params) : Obj := ⟨(.type "tuple"), none, (.seq #[] 0), #[]⟩
noncomputable def o400_8 (P : Params) : Obj := ⟨.none, none, (.fields #[]), #[]⟩
noncomputable def o401_8 (P : Params) : Obj := ⟨.none, none, (.func { name := (.ofString "left"), qualname := (.ofString "Book.left"), params := (sar (nth (inn (nth bd 16)) 3)), body := (.stmts (inn (nth (inn (nth bd 16)) 3))), scope := (ssc (nth (inn (nth bd 16)) 3)), globals := 0, closure := [], defaults := .none, kwdefaults := .none, doc := .none, pyModule := .none, annotations := none, code := .none, closureTuple := .none, builtins := 0 }), #[]⟩
noncomputable def o402_8 (P : Params) : Obj := ⟨(.type "code"), none, (.fields #[(.str (.ofString "left") 707), (.str (.ofString "Book.left") 708), (.str (.ofString "/claim/cut.py") 709), (.int 215 0), (.int 2 0), (.int 0 0), (.int 0 0), (.int 3 0), (.ref 399), (.bool true), (.int 181 0), (.ref 400), .none, .none, .none, (.ref 401), (.int 710 0), (.int 215 0), (.str (.ofString "/claim/cut.py") 711)]), #[]⟩
noncomputable def o403_8 (P : Params) : Obj := ⟨(.type "function"), none, (.func { name := (.ofString "left"), qualname := (.ofString "Book.left"), params := (sar (nth (inn (nth bd 16)) 3)), body := (.stmts (inn (nth (inn (nth bd 16)) 3))), scope := (ssc (nth (inn (nth bd 16)) 3)), globals := 3, closure := [], defaults := .none, kwdefaults := .none, doc := .none, pyModule := (.str (.ofString "bayplan.booking") 611), annotations := none, code := (.ref 402), closureTuple := .none, builtins := 0 }), #[]⟩
noncomputable def o404_8 (P : Params) : Obj := ⟨(.type "tuple"), none, (.seq #[] 0), #[]⟩
noncomputable def o405_8 (P : Params) : Obj := ⟨.none, none, (.fields #[]), #[]⟩
noncomputable def o406_8 (P : Params) : Obj := ⟨.none, none, (.func { name := (.ofString "can_take"), qualname := (.ofString "Book.can_take"), params := (sar (nth (inn (nth bd 16)) 4)), body := (.stmts (inn (nth (inn (nth bd 16)) 4))), scope := (ssc (nth (inn (nth bd 16)) 4)), globals := 0, closure := [], defaults := .none, kwdefaults := .none, doc := .none, pyModule := .none, annotations := none, code := .none, closureTuple := .none, builtins := 0 }), #[]⟩
noncomputable def o407_8 (P : Params) : Obj := ⟨(.type "code"), none, (.fields #[(.str (.ofString "can_take") 713), (.str (.ofString "Book.can_take") 714), (.str (.ofString "/claim/cut.py") 715), (.int 219 0), (.int 2 0), (.int 0 0), (.int 0 0), (.int 3 0), (.ref 404), (.bool true), (.int 181 0), (.ref 405), .none, .none, .none, (.ref 406), (.int 716 0), (.int 219 0), (.str (.ofString "/claim/cut.py") 717)]), #[]⟩
noncomputable def o408_8 (P : Params) : Obj := ⟨(.type "function"), none, (.func { name := (.ofString "can_take"), qualname := (.ofString "Book.can_take"), params := (sar (nth (inn (nth bd 16)) 4)), body := (.stmts (inn (nth (inn (nth bd 16)) 4))), scope := (ssc (nth (inn (nth bd 16)) 4)), globals := 3, closure := [], defaults := .none, kwdefaults := .none, doc := .none, pyModule := (.str (.ofString "bayplan.booking") 611), annotations := none, code := (.ref 407), closureTuple := .none, builtins := 0 }), #[]⟩
noncomputable def o409_8 (P : Params) : Obj := ⟨(.type "tuple"), none, (.seq #[] 0), #[]⟩
noncomputable def o410_8 (P : Params) : Obj := ⟨.none, none, (.fields #[]), #[]⟩
noncomputable def o411_8 (P : Params) : Obj := ⟨.none, none, (.func { name := (.ofString "take"), qualname := (.ofString "Book.take"), params := (sar (nth (inn (nth bd 16)) 5)), body := (.stmts (inn (nth (inn (nth bd 16)) 5))), scope := (ssc (nth (inn (nth bd 16)) 5)), globals := 0, closure := [], defaults := .none, kwdefaults := .none, doc := .none, pyModule := .none, annotations := none, code := .none, closureTuple := .none, builtins := 0 }), #[]⟩
noncomputable def o412_8 (P : Params) : Obj := ⟨(.type "code"), none, (.fields #[(.str (.ofString "take") 719), (.str (.ofString "Book.take") 720), (.str (.ofString "/claim/cut.py") 721), (.int 232 0), (.int 2 0), (.int 0 0), (.int 0 0), (.int 3 0), (.ref 409), (.bool true), (.int 181 0), (.ref 410), .none, .none, .none, (.ref 411), (.int 722 0), (.int 232 0), (.str (.ofString "/claim/cut.py") 723)]), #[]⟩
noncomputable def o413_8 (P : Params) : Obj := ⟨(.type "function"), none, (.func { name := (.ofString "take"), qualname := (.ofString "Book.take"), params := (sar (nth (inn (nth bd 16)) 5)), body := (.stmts (inn (nth (inn (nth bd 16)) 5))), scope := (ssc (nth (inn (nth bd 16)) 5)), globals := 3, closure := [], defaults := .none, kwdefaults := .none, doc := .none, pyModule := (.str (.ofString "bayplan.booking") 611), annotations := none, code := (.ref 412), closureTuple := .none, builtins := 0 }), #[]⟩
noncomputable def o414_8 (P : Params) : Obj := ⟨(.type "tuple"), none, (.seq #[] 0), #[]⟩
noncomputable def o415_8 (P : Params) : Obj := ⟨.none, none, (.fields #[]), #[]⟩
noncomputable def o416_8 (P : Params) : Obj := ⟨(.type "tuple"), none, (.seq #[(.str (.ofString "self") 728), (.str (.ofString "name") 729)] 0), #[]⟩
noncomputable def o417_8 (P : Params) : Obj := ⟨(.type "tuple"), none, (.seq #[] 0), #[]⟩
noncomputable def o418_8 (P : Params) : Obj := ⟨.none, none, (.func { name := (.ofString "drop"), qualname := (.ofString "Book.drop"), params := (sar (nth (inn (nth bd 16)) 6)), body := (.stmts (inn (nth (inn (nth bd 16)) 6))), scope := (ssc (nth (inn (nth bd 16)) 6)), globals := 0, closure := [], defaults := .none, kwdefaults := .none, doc := .none, pyModule := .none, annotations := none, code := .none, closureTuple := .none, builtins := 0 }), #[]⟩
noncomputable def o419_8 (P : Params) : Obj := ⟨(.type "code"), none, (.fields #[(.str (.ofString "drop") 725), (.str (.ofString "Book.drop") 726), (.str (.ofString "/claim/cut.py") 727), (.int 240 0), (.int 2 0), (.int 0 0), (.int 0 0), (.int 3 0), (.ref 414), (.bool true), (.int 181 0), (.ref 415), .none, (.ref 416), (.ref 417), (.ref 418), (.int 730 0), (.int 240 0), (.str (.ofString "/claim/cut.py") 731)]), #[]⟩
noncomputable def o420_8 (P : Params) : Obj := ⟨(.type "function"), none, (.func { name := (.ofString "drop"), qualname := (.ofString "Book.drop"), params := (sar (nth (inn (nth bd 16)) 6)), body := (.stmts (inn (nth (inn (nth bd 16)) 6))), scope := (ssc (nth (inn (nth bd 16)) 6)), globals := 3, closure := [], defaults := .none, kwdefaults := .none, doc := .none, pyModule := (.str (.ofString "bayplan.booking") 611), annotations := none, code := (.ref 419), closureTuple := .none, builtins := 0 }), #[]⟩
noncomputable def o421_8 (P : Params) : Obj := ⟨(.type "tuple"), none, (.seq #[] 0), #[]⟩
noncomputable def o422_8 (P : Params) : Obj := ⟨.none, none, (.fields #[]), #[]⟩
noncomputable def o423_8 (P : Params) : Obj := ⟨(.type "tuple"), none, (.seq #[(.str (.ofString "self") 736)] 0), #[]⟩
noncomputable def o424_8 (P : Params) : Obj := ⟨(.type "tuple"), none, (.seq #[] 0), #[]⟩
noncomputable def o425_8 (P : Params) : Obj := ⟨.none, none, (.func { name := (.ofString "fees"), qualname := (.ofString "Book.fees"), params := (sar (nth (inn (nth bd 16)) 7)), body := (.stmts (inn (nth (inn (nth bd 16)) 7))), scope := (ssc (nth (inn (nth bd 16)) 7)), globals := 0, closure := [], defaults := .none, kwdefaults := .none, doc := .none, pyModule := .none, annotations := none, code := .none, closureTuple := .none, builtins := 0 }), #[]⟩
noncomputable def o426_8 (P : Params) : Obj := ⟨(.type "code"), none, (.fields #[(.str (.ofString "fees") 733), (.str (.ofString "Book.fees") 734), (.str (.ofString "/claim/cut.py") 735), (.int 243 0), (.int 1 0), (.int 0 0), (.int 0 0), (.int 3 0), (.ref 421), (.bool true), (.int 181 0), (.ref 422), .none, (.ref 423), (.ref 424), (.ref 425), (.int 737 0), (.int 243 0), (.str (.ofString "/claim/cut.py") 738)]), #[]⟩
noncomputable def o427_8 (P : Params) : Obj := ⟨(.type "function"), none, (.func { name := (.ofString "fees"), qualname := (.ofString "Book.fees"), params := (sar (nth (inn (nth bd 16)) 7)), body := (.stmts (inn (nth (inn (nth bd 16)) 7))), scope := (ssc (nth (inn (nth bd 16)) 7)), globals := 3, closure := [], defaults := .none, kwdefaults := .none, doc := .none, pyModule := (.str (.ofString "bayplan.booking") 611), annotations := none, code := (.ref 426), closureTuple := .none, builtins := 0 }), #[]⟩
noncomputable def o428_8 (P : Params) : Obj := ⟨(.type "tuple"), none, (.seq #[] 0), #[]⟩
noncomputable def o429_8 (P : Params) : Obj := ⟨.none, none, (.fields #[]), #[]⟩
noncomputable def o430_8 (P : Params) : Obj := ⟨(.type "tuple"), none, (.seq #[(.str (.ofString "self") 743), (.str (.ofString "found") 744), (.str (.ofString "booking") 745)] 0), #[]⟩
noncomputable def o431_8 (P : Params) : Obj := ⟨(.type "tuple"), none, (.seq #[] 0), #[]⟩
noncomputable def o432_8 (P : Params) : Obj := ⟨.none, none, (.func { name := (.ofString "voyage"), qualname := (.ofString "Book.voyage"), params := (sar (nth (inn (nth bd 16)) 8)), body := (.stmts (inn (nth (inn (nth bd 16)) 8))), scope := (ssc (nth (inn (nth bd 16)) 8)), globals := 0, closure := [], defaults := .none, kwdefaults := .none, doc := .none, pyModule := .none, annotations := none, code := .none, closureTuple := .none, builtins := 0 }), #[]⟩
noncomputable def o433_8 (P : Params) : Obj := ⟨(.type "code"), none, (.fields #[(.str (.ofString "voyage") 740), (.str (.ofString "Book.voyage") 741), (.str (.ofString "/claim/cut.py") 742), (.int 246 0), (.int 1 0), (.int 0 0), (.int 0 0), (.int 3 0), (.ref 428), (.bool true), (.int 181 0), (.ref 429), .none, (.ref 430), (.ref 431), (.ref 432), (.int 746 0), (.int 246 0), (.str (.ofString "/claim/cut.py") 747)]), #[]⟩
noncomputable def o434_8 (P : Params) : Obj := ⟨(.type "function"), none, (.func { name := (.ofString "voyage"), qualname := (.ofString "Book.voyage"), params := (sar (nth (inn (nth bd 16)) 8)), body := (.stmts (inn (nth (inn (nth bd 16)) 8))), scope := (ssc (nth (inn (nth bd 16)) 8)), globals := 3, closure := [], defaults := .none, kwdefaults := .none, doc := .none, pyModule := (.str (.ofString "bayplan.booking") 611), annotations := none, code := (.ref 433), closureTuple := .none, builtins := 0 }), #[]⟩
noncomputable def o435_8 (P : Params) : Obj := ⟨(.type "tuple"), none, (.seq #[(.str (.ofString "ports") 749), (.str (.ofString "ship") 750), (.str (.ofString "taken") 751), (.str (.ofString "weight") 752)] 0), #[]⟩
noncomputable def o436_8 (P : Params) : Obj := ⟨(.type "dict"), none, (.dict #[en P (.ofString "__module__") 679 (.str (.ofString "bayplan.booking") 611), en P (.ofString "__firstlineno__") 683 (.int 197 682), en P (.ofString "__init__") 693 (.ref 386), en P (.ofString "legs") 700 (.ref 393), en P (.ofString "used") 706 (.ref 398), en P (.ofString "left") 712 (.ref 403), en P (.ofString "can_take") 718 (.ref 408), en P (.ofString "take") 724 (.ref 413), en P (.ofString "drop") 732 (.ref 420), en P (.ofString "fees") 739 (.ref 427), en P (.ofString "voyage") 748 (.ref 434), en P (.ofString "__static_attributes__") 753 (.ref 435), en P (.ofString "__dict__") 755 (.ref 438), en P (.ofString "__weakref__") 757 (.ref 439), en P (.ofString "__doc__") 758 .none] 4), #[]⟩
noncomputable def o437_8 (P : Params) : Obj := ⟨(.type "type"), none, (.cls { name := (.ofString "Book"), bases := [(.type "object")], mro := [(.ref 437), (.type "object")], ns := 436, qualname := (.ofString "Book"), hasDict := true, slotNames := [], subclasses := [], abstract := false, collection := none, hasDel := false }), #[none, none, (some (.str (.ofString "Book") 672)), (some (.str (.ofString "Book") 680)), (some (.builtin "object.__new__")), (some (.bool true))]⟩
noncomputable def o438_8 (P : Params) : Obj := ⟨(.type "getset_descriptor"), none, (.fields #[(.str (.ofString "__dict__") 754), (.ref 437), (.builtin "function.__dict__"), (.builtin "function.__dict__#set")]), #[]⟩
noncomputable def o439_8 (P : Params) : Obj := ⟨(.type "getset_descriptor"), none, (.fields #[(.str (.ofString "__weakref__") 756), (.ref 437), (.builtin "ExceptionGroup.__weakref__"), .none]), #[]⟩
noncomputable def o440_8 (P : Params) : Obj := ⟨(.type "super"), none, (.fields #[(.ref 437), (.ref 437), (.ref 437)]), #[]⟩
noncomputable def o441_8 (P : Params) : Obj := ⟨(.type "builtin_function_or_method"), none, (.fields #[(.builtin "object.__init_subclass__"), (.ref 437)]), #[]⟩
noncomputable def o442_8 (P : Params) : Obj := ⟨(.type "tuple"), none, (.seq #[] 0), #[]⟩
noncomputable def o443_8 (P : Params) : Obj := ⟨.none, none, (.fields #[]), #[]⟩
noncomputable def o444_8 (P : Params) : Obj := ⟨(.type "tuple"), none, (.seq #[(.str (.ofString "book") 764), (.str (.ofString "bookings") 765), (.str (.ofString "refused") 766), (.str (.ofString "order") 767), (.str (.ofString "place") 768)] 0), #[]⟩
noncomputable def o445_8 (P : Params) : Obj := ⟨(.type "tuple"), none, (.seq #[(.str (.ofString "bookings") 769)] 0), #[]⟩
noncomputable def o446_8 (P : Params) : Obj := ⟨.none, none, (.func { name := (.ofString "accept"), qualname := (.ofString "accept"), params := (sar (nth bd 17)), body := (.stmts (inn (nth bd 17))), scope := (ssc (nth bd 17)), globals := 0, closure := [], defaults := .none, kwdefaults := .none, doc := .none, pyModule := .none, annotations := none, code := .none, closureTuple := .none, builtins := 0 }), #[]⟩
noncomputable def o447_8 (P : Params) : Obj := ⟨(.type "code"), none, (.fields #[(.str (.ofString "accept") 761), (.str (.ofString "accept") 762), (.str (.ofString "/claim/cut.py") 763), (.int 251 0), (.int 2 0), (.int 0 0), (.int 0 0), (.int 3 0), (.ref 442), (.bool true), (.int 181 0), (.ref 443), .none, (.ref 444), (.ref 445), (.ref 446), (.int 770 0), (.int 251 0), (.str (.ofString "/claim/cut.py") 771)]), #[]⟩
noncomputable def o448_8 (P : Params) : Obj := ⟨(.type "function"), none, (.func { name := (.ofString "accept"), qualname := (.ofString "accept"), params := (sar (nth bd 17)), body := (.stmts (inn (nth bd 17))), scope := (ssc (nth bd 17)), globals := 3, closure := [], defaults := .none, kwdefaults := .none, doc := .none, pyModule := (.str (.ofString "bayplan.booking") 611), annotations := none, code := (.ref 447), closureTuple := .none, builtins := 0 }), #[]⟩
noncomputable def o449_8 (P : Params) : Obj := ⟨(.type "tuple"), none, (.seq #[] 0), #[]⟩
noncomputable def o450_8 (P : Params) : Obj := ⟨.none, none, (.fields #[]), #[]⟩
noncomputable def o451_8 (P : Params) : Obj := ⟨(.type "tuple"), none, (.seq #[(.str (.ofString "script") 778), (.str (.ofString "k") 779)] 0), #[]⟩
noncomputable def o452_8 (P : Params) : Obj := ⟨(.type "tuple"), none, (.seq #[] 0), #[]⟩
noncomputable def o453_8 (P : Params) : Obj := ⟨.none, none, (.func { name := (.ofString "_law_cell"), qualname := (.ofString "_law_cell"), params := (sar (nth bd 19)), body := (.stmts (inn (nth bd 19))), scope := (ssc (nth bd 19)), globals := 0, closure := [], defaults := .none, kwdefaults := .none, doc := .none, pyModule := .none, annotations := none, code := .none, closureTuple := .none, builtins := 0 }), #[]⟩
noncomputable def o454_8 (P : Params) : Obj := ⟨(.type "code"), none, (.fields #[(.str (.ofString "_law_cell") 775), (.str (.ofString "_law_cell") 776), (.str (.ofString "/claim/cut.py") 777), (.int 261 0), (.int 2 0), (.int 0 0), (.int 0 0), (.int 3 0), (.ref 449), (.bool true), (.int 181 0), (.ref 450), .none, (.ref 451), (.ref 452), (.ref 453), (.int 780 0), (.int 261 0), (.str (.ofString "/claim/cut.py") 781)]), #[]⟩
noncomputable def o455_8 (P : Params) : Obj := ⟨(.type "function"), none, (.func { name := (.ofString "_law_cell"), qualname := (.ofString "_law_cell"), params := (sar (nth bd 19)), body := (.stmts (inn (nth bd 19))), scope := (ssc (nth bd 19)), globals := 3, closure := [], defaults := .none, kwdefaults := .none, doc := .none, pyModule := (.str (.ofString "law_ui0503_08") 773), annotations := none, code := (.ref 454), closureTuple := .none, builtins := 0 }), #[]⟩
noncomputable def o456_8 (P : Params) : Obj := ⟨(.type "tuple"), none, (.seq #[] 0), #[]⟩
noncomputable def o457_8 (P : Params) : Obj := ⟨.none, none, (.fields #[]), #[]⟩
noncomputable def o458_8 (P : Params) : Obj := ⟨.none, none, (.func { name := (.ofString "law"), qualname := (.ofString "law"), params := (sar (nth bd 20)), body := (.stmts (inn (nth bd 20))), scope := (ssc (nth bd 20)), globals := 0, closure := [], defaults := .none, kwdefaults := .none, doc := .none, pyModule := .none, annotations := none, code := .none, closureTuple := .none, builtins := 0 }), #[]⟩
noncomputable def o459_8 (P : Params) : Obj := ⟨(.type "code"), none, (.fields #[(.str (.ofString "law") 783), (.str (.ofString "law") 784), (.str (.ofString "/claim/cut.py") 785), (.int 265 0), (.int 1 0), (.int 0 0), (.int 0 0), (.int 3 0), (.ref 456), (.bool true), (.int 181 0), (.ref 457), .none, .none, .none, (.ref 458), (.int 786 0), (.int 265 0), (.str (.ofString "/claim/cut.py") 787)]), #[]⟩
noncomputable def o460_8 (P : Params) : Obj := ⟨(.type "function"), none, (.func { name := (.ofString "law"), qualname := (.ofString "law"), params := (sar (nth bd 20)), body := (.stmts (inn (nth bd 20))), scope := (ssc (nth bd 20)), globals := 3, closure := [], defaults := .none, kwdefaults := .none, doc := .none, pyModule := (.str (.ofString "law_ui0503_08") 773), annotations := none, code := (.ref 459), closureTuple := .none, builtins := 0 }), #[]⟩
noncomputable def T7 (P : Params) : BT := (.node (PySem.W.boot_o_0 P) (.node (PySem.W.boot_o_1 P) (.node (o3_8 P) (.node (PySem.W.boot_o_7 P) (.node (o15_2 P) (.node (o31_3 P) (.node (o63_4 P) (.node (o127_4 P) (.node (o255_6 P) .nil .nil) (.node (o383_8 P) .nil .nil)) (.node (o191_5 P) (.node (o319_6 P) .nil .nil) (.node (o447_8 P) .nil .nil))) (.node (o95_4 P) (.node (o159_5 P) (.node (o287_6 P) .nil .nil) (.node (o415_8 P) .nil .nil)) (.node (o223_5 P) (.node (o351_7 P) .nil .nil) .nil))) (.node (o47_3 P) (.node (o79_4 P) (.node (o143_4 P) (.node (o271_6 P) .nil .nil) (.node (o399_8 P) .nil .nil)) (.node (o207_5 P) (.node (o335_7 P) .nil .nil) .nil)) (.node (o111_4 P) (.node (o175_5 P) (.node (o303_6 P) .nil .nil) (.node (o431_8 P) .nil .nil)) (.node (o239_6 P) (.node (o367_7 P) .nil .nil) .nil)))) (.node (o23_2 P) (.node (o39_2 P) (.node (o71_4 P) (.node (o135_4 P) (.node (o263_6 P) .nil .nil) (.node (o391_8 P) .nil .nil)) (.node (o199_5 P) (.node (o327_7 P) .nil .nil) (.node (o455_8 P) .nil .nil))) (.node (o103_4 P) (.node (o167_5 P) (.node (o295_6 P) .nil .nil) (.node (o423_8 P) .nil .nil)) (.node (o231_5 P) (.node (o359_7 P) .nil .nil) .nil))) (.node (o55_3 P) (.node (o87_4 P) (.node (o151_5 P) (.node (o279_6 P) .nil .nil) (.node (o407_8 P) .nil .nil)) (.node (o215_5 P) (.node (o343_7 P) .nil .nil) .nil)) (.node (o119_4 P) (.node (o183_5 P) (.node (o311_6 P) .nil .nil) (.node (o439_8 P) .nil .nil)) (.node (o247_6 P) (.node (o375_8 P) .nil .nil) .nil))))) (.node (o11_0 P) (.node (o19_2 P) (.node (o35_2 P) (.node (o67_4 P) (.node (o131_4 P) (.node (o259_6 P) .nil .nil) (.node (o387_8 P) .nil .nil)) (.node (o195_5 P) (.node (o323_6 P) .nil .nil) (.node (o451_8 P) .nil .nil))) (.node (o99_4 P) (.node (o163_5 P) (.node (o291_6 P) .nil .nil) (.node (o419_8 P) .nil .nil)) (.node (o227_5 P) (.node (o355_7 P) .nil .nil) .nil))) (.node (o51_3 P) (.node (o83_4 P) (.node (o147_5 P) (.node (o275_6 P) .nil .nil) (.node (o403_8 P) .nil .nil)) (.node (o211_5 P) (.node (o339_7 P) .nil .nil) .nil)) (.node (o115_4 P) (.node (o179_5 P) (.node (o307_6 P) .nil .nil) (.node (o435_8 P) .nil .nil)) (.node (o243_6 P) (.node (o371_7 P) .nil .nil) .nil)))) (.node (o27_2 P) (.node (o43_2 P) (.node (o75_4 P) (.node (o139_4 P) (.node (o267_6 P) .nil .nil) (.node (o395_8 P) .nil .nil)) (.node (o203_5 P) (.node (o331_7 P) .nil .nil) (.node (o459_8 P) .nil .nil))) (.node (o107_4 P) (.node (o171_5 P) (.node (o299_6 P) .nil .nil) (.node (o427_8 P) .nil .nil)) (.node (o235_6 P) (.node (o363_7 P) .nil .nil) .nil))) (.node (o59_4 P) (.node (o91_4 P) (.node (o155_5 P) (.node (o283_6 P) .nil .nil) (.node (o411_8 P) .nil .nil)) (.node (o219_5 P) (.node (o347_7 P) .nil .nil) .nil)) (.node (o123_4 P) (.node (o187_5 P) (.node (o315_6 P) .nil .nil) (.node (o443_8 P) .nil .nil)) (.node (o251_6 P) (.node (o379_8 P) .nil .nil) .nil)))))) (.node (PySem.W.boot_o_5 P) (.node (PySem.W.boot_o_9 P) (.node (o17_2 P) (.node (o33_2 P) (.node (o65_4 P) (.node (o129_4 P) (.node (o257_6 P) .nil .nil) (.node (o385_8 P) .nil .nil)) (.node (o193_5 P) (.node (o321_6 P) .nil .nil) (.node (o449_8 P) .nil .nil))) (.node (o97_4 P) (.node (o161_5 P) (.node (o289_6 P) .nil .nil) (.node (o417_8 P) .nil .nil)) (.node (o225_5 P) (.node (o353_7 P) .nil .nil) .nil))) (.node (o49_3 P) (.node (o81_4 P) (.node (o145_4 P) (.node (o273_6 P) .nil .nil) (.node (o401_8 P) .nil .nil)) (.node (o209_5 P) (.node (o337_7 P) .nil .nil) .nil)) (.node (o113_4 P) (.node (o177_5 P) (.node (o305_6 P) .nil .nil) (.node (o433_8 P) .nil .nil)) (.node (o241_6 P) (.node (o369_7 P) .nil .nil) .nil)))) (.node (o25_2 P) (.node (o41_2 P) (.node (o73_4 P) (.node (o137_4 P) (.node (o265_6 P) .nil .nil) (.node (o393_8 P) .nil .nil)) (.node (o201_5 P) (.node (o329_7 P) .nil .nil) (.node (o457_8 P) .nil .nil))) (.node (o105_4 P) (.node (o169_5 P) (.node (o297_6 P) .nil .nil) (.node (o425_8 P) .nil .nil)) (.node (o233_6 P) (.node (o361_7 P) .nil .nil) .nil))) (.node (o57_3 P) (.node (o89_4 P) (.node (o153_5 P) (.node (o281_6 P) .nil .nil) (.node (o409_8 P) .nil .nil)) (.node (o217_5 P) (.node (o345_7 P) .nil .nil) .nil)) (.node (o121_4 P) (.node (o185_5 P) (.node (o313_6 P) .nil .nil) (.node (o441_8 P) .nil .nil)) (.node (o249_6 P) (.node (o377_8 P) .nil .nil) .nil))))) (.node (o13_0 P) (.node (o21_2 P) (.node (o37_2 P) (.node (o69_4 P) (.node (o133_4 P) (.node (o261_6 P) .nil .nil) (.node (o389_8 P) .nil .nil)) (.node (o197_5 P) (.node (o325_7 P) .nil .nil) (.node (o453_8 P) .nil .nil))) (.node (o101_4 P) (.node (o165_5 P) (.node (o293_6 P) .nil .nil) (.node (o421_8 P) .nil .nil)) (.node (o229_5 P) (.node (o357_7 P) .nil .nil) .nil))) (.node (o53_3 P) (.node (o85_4 P) (.node (o149_5 P) (.node (o277_6 P) .nil .nil) (.node (o405_8 P) .nil .nil)) (.node (o213_5 P) (.node (o341_7 P) .nil .nil) .nil)) (.node (o117_4 P) (.node (o181_5 P) (.node (o309_6 P) .nil .nil) (.node (o437_8 P) .nil .nil)) (.node (o245_6 P) (.node (o373_8 P) .nil .nil) .nil)))) (.node (o29_2 P) (.node (o45_2 P) (.node (o77_4 P) (.node (o141_4 P) (.node (o269_6 P) .nil .nil) (.node (o397_8 P) .nil .nil)) (.node (o205_5 P) (.node (o333_7 P) .nil .nil) .nil)) (.node (o109_4 P) (.node (o173_5 P) (.node (o301_6 P) .nil .nil) (.node (o429_8 P) .nil .nil)) (.node (o237_6 P) (.node (o365_7 P) .nil .nil) .nil))) (.node (o61_4 P) (.node (o93_4 P) (.node (o157_5 P) (.node (o285_6 P) .nil .nil) (.node (o413_8 P) .nil .nil)) (.node (o221_5 P) (.node (o349_7 P) .nil .nil) .nil)) (.node (o125_4 P) (.node (o189_5 P) (.node (o317_6 P) .nil .nil) (.node (o445_8 P) .nil .nil)) (.node (o253_6 P) (.node (o381_8 P) .nil .nil) .nil))))))) (.node (o2_2 P) (.node (PySem.W.boot_o_4 P) (.node (PySem.W.boot_o_8 P) (.node (o16_2 P) (.node (o32_2 P) (.node (o64_4 P) (.node (o128_4 P) (.node (o256_6 P) .nil .nil) (.node (o384_8 P) .nil .nil)) (.node (o192_5 P) (.node (o320_6 P) .nil .nil) (.node (o448_8 P) .nil .nil))) (.node (o96_4 P) (.node (o160_5 P) (.node (o288_6 P) .nil .nil) (.node (o416_8 P) .nil .nil)) (.node (o224_5 P) (.node (o352_7 P) .nil .nil) .nil))) (.node (o48_3 P) (.node (o80_4 P) (.node (o144_4 P) (.node (o272_6 P) .nil .nil) (.node (o400_8 P) .nil .nil)) (.node (o208_5 P) (.node (o336_7 P) .nil .nil) .nil)) (.node (o112_4 P) (.node (o176_5 P) (.node (o304_6 P) .nil .nil) (.node (o432_8 P) .nil .nil)) (.node (o240_6 P) (.node (o368_7 P) .nil .nil) .nil)))) (.node (o24_2 P) (.node (o40_2 P) (.node (o72_4 P) (.node (o136_4 P) (.node (o264_6 P) .nil .nil) (.node (o392_8 P) .nil .nil)) (.node (o200_5 P) (.node (o328_7 P) .nil .nil) (.node (o456_8 P) .nil .nil))) (.node (o104_4 P) (.node (o168_5 P) (.node (o296_6 P) .nil .nil) (.node (o424_8 P) .nil .nil)) (.node (o232_6 P) (.node (o360_7 P) .nil .nil) .nil))) (.node (o56_3 P) (.node (o88_4 P) (.node (o152_5 P) (.node (o280_6 P) .nil .nil) (.node (o408_8 P) .nil .nil)) (.node (o216_5 P) (.node (o344_7 P) .nil .nil) .nil)) (.node (o120_4 P) (.node (o184_5 P) (.node (o312_6 P) .nil .nil) (.node (o440_8 P) .nil .nil)) (.node (o248_6 P) (.node (o376_8 P) .nil .nil) .nil))))) (.node (o12_8 P) (.node (o20_2 P) (.node (o36_2 P) (.node (o68_4 P) (.node (o132_4 P) (.node (o260_6 P) .nil .nil) (.node (o388_8 P) .nil .nil)) (.node (o196_5 P) (.node (o324_7 P) .nil .nil) (.node (o452_8 P) .nil .nil))) (.node (o100_4 P) (.node (o164_5 P) (.node (o292_6 P) .nil .nil) (.node (o420_8 P) .nil .nil)) (.node (o228_5 P) (.node (o356_7 P) .nil .nil) .nil))) (.node (o52_3 P) (.node (o84_4 P) (.node (o148_5 P) (.node (o276_6 P) .nil .nil) (.node (o404_8 P) .nil .nil)) (.node (o212_5 P) (.node (o340_7 P) .nil .nil) .nil)) (.node (o116_4 P) (.node (o180_5 P) (.node (o308_6 P) .nil .nil) (.node (o436_8 P) .nil .nil)) (.node (o244_6 P) (.node (o372_7 P) .nil .nil) .nil)))) (.node (o28_2 P) (.node (o44_2 P) (.node (o76_4 P) (.node (o140_4 P) (.node (o268_6 P) .nil .nil) (.node (o396_8 P) .nil .nil)) (.node (o204_5 P) (.node (o332_7 P) .nil .nil) (.node (o460_8 P) .nil .nil))) (.node (o108_4 P) (.node (o172_5 P) (.node (o300_6 P) .nil .nil) (.node (o428_8 P) .nil .nil)) (.node (o236_6 P) (.node (o364_7 P) .nil .nil) .nil))) (.node (o60_4 P) (.node (o92_4 P) (.node (o156_5 P) (.node (o284_6 P) .nil .nil) (.node (o412_8 P) .nil .nil)) (.node (o220_5 P) (.node (o348_7 P) .nil .nil) .nil)) (.node (o124_4 P) (.node (o188_5 P) (.node (o316_6 P) .nil .nil) (.node (o444_8 P) .nil .nil)) (.node (o252_6 P) (.node (o380_8 P) .nil .nil) .nil)))))) (.node (PySem.W.boot_o_6 P) (.node (PySem.W.boot_o_10 P) (.node (o18_2 P) (.node (o34_2 P) (.node (o66_4 P) (.node (o130_4 P) (.node (o258_6 P) .nil .nil) (.node (o386_8 P) .nil .nil)) (.node (o194_5 P) (.node (o322_6 P) .nil .nil) (.node (o450_8 P) .nil .nil))) (.node (o98_4 P) (.node (o162_5 P) (.node (o290_6 P) .nil .nil) (.node (o418_8 P) .nil .nil)) (.node (o226_5 P) (.node (o354_7 P) .nil .nil) .nil))) (.node (o50_3 P) (.node (o82_4 P) (.node (o146_4 P) (.node (o274_6 P) .nil .nil) (.node (o402_8 P) .nil .nil)) (.node (o210_5 P) (.node (o338_7 P) .nil .nil) .nil)) (.node (o114_4 P) (.node (o178_5 P) (.node (o306_6 P) .nil .nil) (.node (o434_8 P) .nil .nil)) (.node (o242_6 P) (.node (o370_7 P) .nil .nil) .nil)))) (.node (o26_2 P) (.node (o42_2 P) (.node (o74_4 P) (.node (o138_4 P) (.node (o266_6 P) .nil .nil) (.node (o394_8 P) .nil .nil)) (.node (o202_5 P) (.node (o330_7 P) .nil .nil) (.node (o458_8 P) .nil .nil))) (.node (o106_4 P) (.node (o170_5 P) (.node (o298_6 P) .nil .nil) (.node (o426_8 P) .nil .nil)) (.node (o234_6 P) (.node (o362_7 P) .nil .nil) .nil))) (.node (o58_3 P) (.node (o90_4 P) (.node (o154_5 P) (.node (o282_6 P) .nil .nil) (.node (o410_8 P) .nil .nil)) (.node (o218_5 P) (.node (o346_7 P) .nil .nil) .nil)) (.node (o122_4 P) (.node (o186_5 P) (.node (o314_6 P) .nil .nil) (.node (o442_8 P) .nil .nil)) (.node (o250_6 P) (.node (o378_8 P) .nil .nil) .nil))))) (.node (o14_0 P) (.node (o22_2 P) (.node (o38_2 P) (.node (o70_4 P) (.node (o134_4 P) (.node (o262_6 P) .nil .nil) (.node (o390_8 P) .nil .nil)) (.node (o198_5 P) (.node (o326_7 P) .nil .nil) (.node (o454_8 P) .nil .nil))) (.node (o102_4 P) (.node (o166_5 P) (.node (o294_6 P) .nil .nil) (.node (o422_8 P) .nil .nil)) (.node (o230_5 P) (.node (o358_7 P) .nil .nil) .nil))) (.node (o54_3 P) (.node (o86_4 P) (.node (o150_5 P) (.node (o278_6 P) .nil .nil) (.node (o406_8 P) .nil .nil)) (.node (o214_5 P) (.node (o342_7 P) .nil .nil) .nil)) (.node (o118_4 P) (.node (o182_5 P) (.node (o310_6 P) .nil .nil) (.node (o438_8 P) .nil .nil)) (.node (o246_6 P) (.node (o374_8 P) .nil .nil) .nil)))) (.node (o30_2 P) (.node (o46_2 P) (.node (o78_4 P) (.node (o142_4 P) (.node (o270_6 P) .nil .nil) (.node (o398_8 P) .nil .nil)) (.node (o206_5 P) (.node (o334_7 P) .nil .nil) .nil)) (.node (o110_4 P) (.node (o174_5 P) (.node (o302_6 P) .nil .nil) (.node (o430_8 P) .nil .nil)) (.node (o238_6 P) (.node (o366_7 P) .nil .nil) .nil))) (.node (o62_4 P) (.node (o94_4 P) (.node (o158_5 P) (.node (o286_6 P) .nil .nil) (.node (o414_8 P) .nil .nil)) (.node (o222_5 P) (.node (o350_7 P) .nil .nil) .nil)) (.node (o126_4 P) (.node (o190_5 P) (.node (o318_6 P) .nil .nil) (.node (o446_8 P) .nil .nil)) (.node (o254_6 P) (.node (o382_8 P) .nil .nil) .nil))))))))
noncomputable def Hf (P : Params) : Heap := ⟨⟨[PySem.W.boot_o_0 P, PySem.W.boot_o_1 P, o2_2 P, o3_8 P, PySem.W.boot_o_4 P, PySem.W.boot_o_5 P, PySem.W.boot_o_6 P, PySem.W.boot_o_7 P, PySem.W.boot_o_8 P, PySem.W.boot_o_9 P, PySem.W.boot_o_10 P, o11_0 P, o12_8 P, o13_0 P, o14_0 P, o15_2 P, o16_2 P, o17_2 P, o18_2 P, o19_2 P, o20_2 P, o21_2 P, o22_2 P, o23_2 P, o24_2 P, o25_2 P, o26_2 P, o27_2 P, o28_2 P, o29_2 P, o30_2 P, o31_3 P, o32_2 P, o33_2 P, o34_2 P, o35_2 P, o36_2 P, o37_2 P, o38_2 P, o39_2 P, o40_2 P, o41_2 P, o42_2 P, o43_2 P, o44_2 P, o45_2 P, o46_2 P, o47_3 P, o48_3 P, o49_3 P, o50_3 P, o51_3 P, o52_3 P, o53_3 P, o54_3 P, o55_3 P, o56_3 P, o57_3 P, o58_3 P, o59_4 P, o60_4 P, o61_4 P, o62_4 P, o63_4 P, o64_4 P, o65_4 P, o66_4 P, o67_4 P, o68_4 P, o69_4 P, o70_4 P, o71_4 P, o72_4 P, o73_4 P, o74_4 P, o75_4 P, o76_4 P, o77_4 P, o78_4 P, o79_4 P, o80_4 P, o81_4 P, o82_4 P, o83_4 P, o84_4 P, o85_4 P, o86_4 P, o87_4 P, o88_4 P, o89_4 P, o90_4 P, o91_4 P, o92_4 P, o93_4 P, o94_4 P, o95_4 P, o96_4 P, o97_4 P, o98_4 P, o99_4 P, o100_4 P, o101_4 P, o102_4 P, o103_4 P, o104_4 P, o105_4 P, o106_4 P, o107_4 P, o108_4 P, o109_4 P, o110_4 P, o111_4 P, o112_4 P, o113_4 P, o114_4 P, o115_4 P, o116_4 P, o117_4 P, o118_4 P, o119_4 P, o120_4 P, o121_4 P, o122_4 P, o123_4 P, o124_4 P, o125_4 P, o126_4 P, o127_4 P, o128_4 P, o129_4 P, o130_4 P, o131_4 P, o132_4 P, o133_4 P, o134_4 P, o135_4 P, o136_4 P, o137_4 P, o138_4 P, o139_4 P, o140_4 P, o141_4 P, o142_4 P, o143_4 P, o144_4 P, o145_4 P, o146_4 P, o147_5 P, o148_5 P, o149_5 P, o150_5 P, o151_5 P, o152_5 P, o153_5 P, o154_5 P, o155_5 P, o156_5 P, o157_5 P, o158_5 P, o159_5 P, o160_5 P, o161_5 P, o162_5 P, o163_5 P, o164_5 P, o165_5 P, o166_5 P, o167_5 P, o168_5 P, o169_5 P, o170_5 P, o171_5 P, o172_5 P, o173_5 P, o174_5 P, o175_5 P, o176_5 P, o177_5 P, o178_5 P, o179_5 P, o180_5 P, o181_5 P, o182_5 P, o183_5 P, o184_5 P, o185_5 P, o186_5 P, o187_5 P, o188_5 P, o189_5 P, o190_5 P, o191_5 P, o192_5 P, o193_5 P, o194_5 P, o195_5 P, o196_5 P, o197_5 P, o198_5 P, o199_5 P, o200_5 P, o201_5 P, o202_5 P, o203_5 P, o204_5 P, o205_5 P, o206_5 P, o207_5 P, o208_5 P, o209_5 P, o210_5 P, o211_5 P, o212_5 P, o213_5 P, o214_5 P, o215_5 P, o216_5 P, o217_5 P, o218_5 P, o219_5 P, o220_5 P, o221_5 P, o222_5 P, o223_5 P, o224_5 P, o225_5 P, o226_5 P, o227_5 P, o228_5 P, o229_5 P, o230_5 P, o231_5 P, o232_6 P, o233_6 P, o234_6 P, o235_6 P, o236_6 P, o237_6 P, o238_6 P, o239_6 P, o240_6 P, o241_6 P, o242_6 P, o243_6 P, o244_6 P, o245_6 P, o246_6 P, o247_6 P, o248_6 P, o249_6 P, o250_6 P, o251_6 P, o252_6 P, o253_6 P, o254_6 P, o255_6 P, o256_6 P, o257_6 P, o258_6 P, o259_6 P, o260_6 P, o261_6 P, o262_6 P, o263_6 P, o264_6 P, o265_6 P, o266_6 P, o267_6 P, o268_6 P, o269_6 P, o270_6 P, o271_6 P, o272_6 P, o273_6 P, o274_6 P, o275_6 P, o276_6 P, o277_6 P, o278_6 P, o279_6 P, o280_6 P, o281_6 P, o282_6 P, o283_6 P, o284_6 P, o285_6 P, o286_6 P, o287_6 P, o288_6 P, o289_6 P, o290_6 P, o291_6 P, o292_6 P, o293_6 P, o294_6 P, o295_6 P, o296_6 P, o297_6 P, o298_6 P, o299_6 P, o300_6 P, o301_6 P, o302_6 P, o303_6 P, o304_6 P, o305_6 P, o306_6 P, o307_6 P, o308_6 P, o309_6 P, o310_6 P, o311_6 P, o312_6 P, o313_6 P, o314_6 P, o315_6 P, o316_6 P, o317_6 P, o318_6 P, o319_6 P, o320_6 P, o321_6 P, o322_6 P, o323_6 P, o324_7 P, o325_7 P, o326_7 P, o327_7 P, o328_7 P, o329_7 P, o330_7 P, o331_7 P, o332_7 P, o333_7 P, o334_7 P, o335_7 P, o336_7 P, o337_7 P, o338_7 P, o339_7 P, o340_7 P, o341_7 P, o342_7 P, o343_7 P, o344_7 P, o345_7 P, o346_7 P, o347_7 P, o348_7 P, o349_7 P, o350_7 P, o351_7 P, o352_7 P, o353_7 P, o354_7 P, o355_7 P, o356_7 P, o357_7 P, o358_7 P, o359_7 P, o360_7 P, o361_7 P, o362_7 P, o363_7 P, o364_7 P, o365_7 P, o366_7 P, o367_7 P, o368_7 P, o369_7 P, o370_7 P, o371_7 P, o372_7 P, o373_8 P, o374_8 P, o375_8 P, o376_8 P, o377_8 P, o378_8 P, o379_8 P, o380_8 P, o381_8 P, o382_8 P, o383_8 P, o384_8 P, o385_8 P, o386_8 P, o387_8 P, o388_8 P, o389_8 P, o390_8 P, o391_8 P, o392_8 P, o393_8 P, o394_8 P, o395_8 P, o396_8 P, o397_8 P, o398_8 P, o399_8 P, o400_8 P, o401_8 P, o402_8 P, o403_8 P, o404_8 P, o405_8 P, o406_8 P, o407_8 P, o408_8 P, o409_8 P, o410_8 P, o411_8 P, o412_8 P, o413_8 P, o414_8 P, o415_8 P, o416_8 P, o417_8 P, o418_8 P, o419_8 P, o420_8 P, o421_8 P, o422_8 P, o423_8 P, o424_8 P, o425_8 P, o426_8 P, o427_8 P, o428_8 P, o429_8 P, o430_8 P, o431_8 P, o432_8 P, o433_8 P, o434_8 P, o435_8 P, o436_8 P, o437_8 P, o438_8 P, o439_8 P, o440_8 P, o441_8 P, o442_8 P, o443_8 P, o444_8 P, o445_8 P, o446_8 P, o447_8 P, o448_8 P, o449_8 P, o450_8 P, o451_8 P, o452_8 P, o453_8 P, o454_8 P, o455_8 P, o456_8 P, o457_8 P, o458_8 P, o459_8 P, o460_8 P]⟩, {}⟩
noncomputable def K (P : Params) : Frag := [(2, o2_2 P), (3, o3_8 P), (15, o15_2 P), (17, o17_2 P), (18, o18_2 P), (20, o20_2 P), (21, o21_2 P), (22, o22_2 P), (29, o29_2 P), (30, o30_2 P), (31, o31_3 P), (32, o32_2 P), (35, o35_2 P), (42, o42_2 P), (43, o43_2 P), (44, o44_2 P), (47, o47_3 P), (54, o54_3 P), (55, o55_3 P), (56, o56_3 P), (66, o66_4 P), (67, o67_4 P), (68, o68_4 P), (69, o69_4 P), (71, o71_4 P), (72, o72_4 P), (74, o74_4 P), (75, o75_4 P), (76, o76_4 P), (78, o78_4 P), (79, o79_4 P), (81, o81_4 P), (82, o82_4 P), (83, o83_4 P), (85, o85_4 P), (86, o86_4 P), (88, o88_4 P), (89, o89_4 P), (90, o90_4 P), (92, o92_4 P), (93, o93_4 P), (95, o95_4 P), (96, o96_4 P), (97, o97_4 P), (99, o99_4 P), (100, o100_4 P), (102, o102_4 P), (103, o103_4 P), (104, o104_4 P), (106, o106_4 P), (107, o107_4 P), (109, o109_4 P), (110, o110_4 P), (111, o111_4 P), (113, o113_4 P), (114, o114_4 P), (116, o116_4 P), (117, o117_4 P), (118, o118_4 P), (120, o120_4 P), (121, o121_4 P), (123, o123_4 P), (124, o124_4 P), (125, o125_4 P), (127, o127_4 P), (128, o128_4 P), (130, o130_4 P), (131, o131_4 P), (132, o132_4 P), (133, o133_4 P), (134, o134_4 P), (135, o135_4 P), (136, o136_4 P), (139, o139_4 P), (140, o140_4 P), (142, o142_4 P), (143, o143_4 P), (145, o145_4 P), (146, o146_4 P), (154, o154_5 P), (155, o155_5 P), (157, o157_5 P), (158, o158_5 P), (160, o160_5 P), (161, o161_5 P), (162, o162_5 P), (164, o164_5 P), (165, o165_5 P), (167, o167_5 P), (168, o168_5 P), (169, o169_5 P), (171, o171_5 P), (172, o172_5 P), (174, o174_5 P), (175, o175_5 P), (176, o176_5 P), (178, o178_5 P), (179, o179_5 P), (181, o181_5 P), (182, o182_5 P), (183, o183_5 P), (185, o185_5 P), (186, o186_5 P), (188, o188_5 P), (189, o189_5 P), (190, o190_5 P), (192, o192_5 P), (193, o193_5 P), (195, o195_5 P), (196, o196_5 P), (197, o197_5 P), (199, o199_5 P), (200, o200_5 P), (202, o202_5 P), (203, o203_5 P), (204, o204_5 P), (206, o206_5 P), (207, o207_5 P), (209, o209_5 P), (210, o210_5 P), (211, o211_5 P), (213, o213_5 P), (214, o214_5 P), (216, o216_5 P), (217, o217_5 P), (218, o218_5 P), (220, o220_5 P), (221, o221_5 P), (223, o223_5 P), (224, o224_5 P), (225, o225_5 P), (226, o226_5 P), (227, o227_5 P), (228, o228_5 P), (229, o229_5 P), (239, o239_6 P), (242, o242_6 P), (243, o243_6 P), (244, o244_6 P), (246, o246_6 P), (247, o247_6 P), (249, o249_6 P), (250, o250_6 P), (251, o251_6 P), (253, o253_6 P), (254, o254_6 P), (256, o256_6 P), (257, o257_6 P), (258, o258_6 P), (260, o260_6 P), (261, o261_6 P), (263, o263_6 P), (264, o264_6 P), (265, o265_6 P), (267, o267_6 P), (268, o268_6 P), (270, o270_6 P), (271, o271_6 P), (272, o272_6 P), (274, o274_6 P), (275, o275_6 P), (277, o277_6 P), (278, o278_6 P), (279, o279_6 P), (282, o282_6 P), (283, o283_6 P), (284, o284_6 P), (286, o286_6 P), (287, o287_6 P), (289, o289_6 P), (290, o290_6 P), (291, o291_6 P), (293, o293_6 P), (294, o294_6 P), (296, o296_6 P), (297, o297_6 P), (298, o298_6 P), (300, o300_6 P), (301, o301_6 P), (303, o303_6 P), (304, o304_6 P), (305, o305_6 P), (307, o307_6 P), (308, o308_6 P), (310, o310_6 P), (311, o311_6 P), (312, o312_6 P), (315, o315_6 P), (316, o316_6 P), (317, o317_6 P), (318, o318_6 P), (319, o319_6 P), (320, o320_6 P), (321, o321_6 P), (331, o331_7 P), (333, o333_7 P), (334, o334_7 P), (336, o336_7 P), (337, o337_7 P), (338, o338_7 P), (340, o340_7 P), (341, o341_7 P), (343, o343_7 P), (344, o344_7 P), (345, o345_7 P), (347, o347_7 P), (348, o348_7 P), (350, o350_7 P), (351, o351_7 P), (352, o352_7 P), (354, o354_7 P), (355, o355_7 P), (357, o357_7 P), (358, o358_7 P), (359, o359_7 P), (361, o361_7 P), (362, o362_7 P), (364, o364_7 P), (365, o365_7 P), (366, o366_7 P), (367, o367_7 P), (368, o368_7 P), (369, o369_7 P), (370, o370_7 P), (380, o380_8 P), (382, o382_8 P), (383, o383_8 P), (385, o385_8 P), (386, o386_8 P), (387, o387_8 P), (389, o389_8 P), (390, o390_8 P), (392, o392_8 P), (393, o393_8 P), (394, o394_8 P), (397, o397_8 P), (398, o398_8 P), (399, o399_8 P), (402, o402_8 P), (403, o403_8 P), (404, o404_8 P), (407, o407_8 P), (408, o408_8 P), (409, o409_8 P), (412, o412_8 P), (413, o413_8 P), (414, o414_8 P), (416, o416_8 P), (417, o417_8 P), (419, o419_8 P), (420, o420_8 P), (421, o421_8 P), (423, o423_8 P), (424, o424_8 P), (426, o426_8 P), (427, o427_8 P), (428, o428_8 P), (430, o430_8 P), (431, o431_8 P), (433, o433_8 P), (434, o434_8 P), (435, o435_8 P), (436, o436_8 P), (437, o437_8 P), (438, o438_8 P), (439, o439_8 P), (442, o442_8 P), (444, o444_8 P), (445, o445_8 P), (447, o447_8 P), (448, o448_8 P), (449, o449_8 P), (451, o451_8 P), (452, o452_8 P), (454, o454_8 P), (455, o455_8 P), (456, o456_8 P), (459, o459_8 P), (460, o460_8 P)]
noncomputable def as : List Addr := [2, 3, 15, 17, 18, 20, 21, 22, 29, 30, 31, 32, 35, 42, 43, 44, 47, 54, 55, 56, 66, 67, 68, 69, 71, 72, 74, 75, 76, 78, 79, 81, 82, 83, 85, 86, 88, 89, 90, 92, 93, 95, 96, 97, 99, 100, 102, 103, 104, 106, 107, 109, 110, 111, 113, 114, 116, 117, 118, 120, 121, 123, 124, 125, 127, 128, 130, 131, 132, 133, 134, 135, 136, 139, 140, 142, 143, 145, 146, 154, 155, 157, 158, 160, 161, 162, 164, 165, 167, 168, 169, 171, 172, 174, 175, 176, 178, 179, 181, 182, 183, 185, 186, 188, 189, 190, 192, 193, 195, 196, 197, 199, 200, 202, 203, 204, 206, 207, 209, 210, 211, 213, 214, 216, 217, 218, 220, 221, 223, 224, 225, 226, 227, 228, 229, 239, 242, 243, 244, 246, 247, 249, 250, 251, 253, 254, 256, 257, 258, 260, 261, 263, 264, 265, 267, 268, 270, 271, 272, 274, 275, 277, 278, 279, 282, 283, 284, 286, 287, 289, 290, 291, 293, 294, 296, 297, 298, 300, 301, 303, 304, 305, 307, 308, 310, 311, 312, 315, 316, 317, 318, 319, 320, 321, 331, 333, 334, 336, 337, 338, 340, 341, 343, 344, 345, 347, 348, 350, 351, 352, 354, 355, 357, 358, 359, 361, 362, 364, 365, 366, 367, 368, 369, 370, 380, 382, 383, 385, 386, 387, 389, 390, 392, 393, 394, 397, 398, 399, 402, 403, 404, 407, 408, 409, 412, 413, 414, 416, 417, 419, 420, 421, 423, 424, 426, 427, 428, 430, 431, 433, 434, 435, 436, 437, 438, 439, 442, 444, 445, 447, 448, 449, 451, 452, 454, 455, 456, 459, 460]
noncomputable def ann : Option Value := (some (.ref 6))
noncomputable def p0 : Pos := ⟨0, 0, 0, 0⟩
noncomputable def pos0 : Pos := ⟨0, 0, 0, 0⟩
noncomputable def st0 (w : World) (os : OsState) : SharedT := ⟨T0 w.params, 15, {}, gs, dr, 187, os⟩
noncomputable def pos1 : Pos := ⟨7, 0, 8, 8⟩
noncomputable def st1 (w : World) (os : OsState) : SharedT := ⟨T1 w.params, 47, {}, gs, dr, 232, os⟩
noncomputable def sts1 : List Stmt := (bd.drop 0).take 4
noncomputable def pos2 : Pos := ⟨11, 0, 11, 8⟩
noncomputable def st2 (w : World) (os : OsState) : SharedT := ⟨T2 w.params, 59, {}, gs, dr, 250, os⟩
noncomputable def sts2 : List Stmt := (bd.drop 4).take 2
noncomputable def pos3 : Pos := ⟨69, 0, 70, 53⟩
noncomputable def st3 (w : World) (os : OsState) : SharedT := ⟨T3 w.params, 147, {}, gs, dr, 384, os⟩
noncomputable def sts3 : List Stmt := (bd.drop 6).take 6
noncomputable def pos4 : Pos := ⟨71, 0, 126, 48⟩
noncomputable def st4 (w : World) (os : OsState) : SharedT := ⟨T4 w.params, 232, {}, gs, dr, 500, os⟩
noncomputable def sts4 : List Stmt := (bd.drop 12).take 1
noncomputable def pos5 : Pos := ⟨177, 0, 177, 8⟩
noncomputable def st5 (w : World) (os : OsState) : SharedT := ⟨T5 w.params, 324, {}, gs, dr, 613, os⟩
noncomputable def sts5 : List Stmt := (bd.drop 13).take 2
noncomputable def pos6 : Pos := ⟨178, 0, 196, 67⟩
noncomputable def st6 (w : World) (os : OsState) : SharedT := ⟨T6 w.params, 373, {}, gs, dr, 672, os⟩
noncomputable def sts6 : List Stmt := (bd.drop 15).take 1
noncomputable def pos7 : Pos := ⟨265, 0, 276, 41⟩
noncomputable def st7 (w : World) (os : OsState) : SharedT := ⟨T7 w.params, 461, {}, gs, dr, 789, os⟩
noncomputable def sts7 : List Stmt := (bd.drop 16).take 5
noncomputable abbrev pw : Program := PySem.Challenge.pw_ui0503_08
theorem pre_ok (w : World) : (fun os => topGo treeTable pw w 11 ann 12 ⟨boot_heap w.params, gs, boot_drawn, boot_toks, os⟩ (topStub pw)) = fun os => some (⟨Ha w.params, gs, dr, 187, os⟩, ⟨denote treeTable cE, cE, p0, B⟩) := by
  rw [PySem.W.Fast.te15667345088766844465, PySem.W.Fast.te14364793385576792824, PySem.W.Fast.te11892475500146522536]; kernel_rfl
theorem block_ok (w : World) : (fun os => segRun treeTable pw w 11 ann 1 1 ⟨Ha w.params, gs, dr, 187, os⟩ (blockOf bd env cE p0 B)) = fun os => some (.next, (st0 w os).abs, cE, pos0) := by
  rw [PySem.W.Fast.te14374325043358763698, PySem.W.Fast.te14364793385576792824]; kernel_rfl
theorem g1_ok (w : World) : (fun os => segRunT treeTable pw w 11 ann 1 448 (st0 w os) (piecesOf sts1 env cE pos0 B)) = fun os => some (.next, st1 w os, cE, pos1) := by
  rw [PySem.W.Fast.te10110043849684766642, PySem.W.Fast.te14364793385576792824]; kernel_rfl
theorem g2_ok (w : World) : (fun os => segRunT treeTable pw w 11 ann 1 223 (st1 w os) (piecesOf sts2 env cE pos1 B)) = fun os => some (.next, st2 w os, cE, pos2) := by
  rw [PySem.W.Fast.te10110043849684766642, PySem.W.Fast.te14364793385576792824]; kernel_rfl
theorem g3_ok : ∀ w : World, (fun os => segRunT treeTable pw w 11 ann 1 601 (st2 w os) (piecesOf sts3 env cE pos2 B)) = fun os => some (.next, st3 w os, cE, pos3) := by
  rw [PySem.W.Fast.te10110043849684766642, PySem.W.Fast.te14364793385576792824]; refine byRow2 "special-get-raises" ?_ ?_ <;> intro w <;> kernel_rfl
theorem g4_ok (w : World) : (fun os => segRunT treeTable pw w 11 ann 1 532 (st3 w os) (piecesOf sts4 env cE pos3 B)) = fun os => some (.next, st4 w os, cE, pos4) := by
  rw [PySem.W.Fast.te10110043849684766642, PySem.W.Fast.te14364793385576792824]; kernel_rfl
theorem g5_ok (w : World) : (fun os => segRunT treeTable pw w 11 ann 1 572 (st4 w os) (piecesOf sts5 env cE pos4 B)) = fun os => some (.next, st5 w os, cE, pos5) := by
  rw [PySem.W.Fast.te10110043849684766642, PySem.W.Fast.te14364793385576792824]; kernel_rfl
theorem g6_ok (w : World) : (fun os => segRunT treeTable pw w 11 ann 1 349 (st5 w os) (piecesOf sts6 env cE pos5 B)) = fun os => some (.next, st6 w os, cE, pos6) := by
  rw [PySem.W.Fast.te10110043849684766642, PySem.W.Fast.te14364793385576792824]; kernel_rfl
theorem g7_ok (w : World) : (fun os => segRunT treeTable pw w 11 ann 1 566 (st6 w os) (piecesOf sts7 env cE pos6 B)) = fun os => some (.next, st7 w os, cE, pos7) := by
  rw [PySem.W.Fast.te10110043849684766642, PySem.W.Fast.te14364793385576792824]; kernel_rfl
theorem fin_ok (w : World) : (fun os => topRun treeTable pw w 11 ann 2 (st7 w os).abs ⟨doneF .next, cE, pos7, B⟩) = fun os => some ⟨Hf w.params, gs, dr, 789, os⟩ := by
  rw [PySem.W.Fast.te14082659384304107361, PySem.W.Fast.te14364793385576792824]; kernel_rfl
theorem sts_ok : bd = sts1 ++ (sts2 ++ (sts3 ++ (sts4 ++ (sts5 ++ (sts6 ++ (sts7 ++ ([]))))))) := by kernel_rfl
theorem run_ok (w : World) (os : OsState) : topRun treeTable pw w 11 ann (12 + (1 + (448 + (223 + (601 + (532 + (572 + (349 + (566 + 2))))))))) ⟨boot_heap w.params, gs, boot_drawn, boot_toks, os⟩ (topStub pw) = some ⟨Hf w.params, gs, dr, 789, os⟩ := by
  refine go_top (congrFun (pre_ok w) os) ?_
  refine piece_block (b := bd) (env := env) (c := cE) (q := ⟨0, 0, 0, 0⟩) (congrFun (block_ok w) os) ?_
  rw [sts_ok]
  refine piece_app (segRun_of (congrFun (g1_ok w) os)) ?_
  refine piece_app (segRun_of (congrFun (g2_ok w) os)) ?_
  refine piece_app (segRun_of (congrFun (g3_ok w) os)) ?_
  refine piece_app (segRun_of (congrFun (g4_ok w) os)) ?_
  refine piece_app (segRun_of (congrFun (g5_ok w) os)) ?_
  refine piece_app (segRun_of (congrFun (g6_ok w) os)) ?_
  refine piece_app (segRun_of (congrFun (g7_ok w) os)) ?_
  exact congrFun (fin_ok w) os
noncomputable def pick (l : List Stmt) (is : List Nat) : List Stmt := is.filterMap fun i => l[i]?
noncomputable def view : Program := { pw with main := { pw.main with body := pick pw.main.body [0, 2, 3, 4, 6, 8, 9, 10, 11, 12, 13, 15, 16, 17, 19, 20] } }
noncomputable def loose : List Str := [.ofString "Ship", .ofString "HEIGHTS", .ofString "Container"]
theorem open_ok : opening pw = plainProg pw.main.scope.names := by kernel_rfl
theorem fence_ok (s : Shared) : fenceModules? pw s = some s := by kernel_rfl
theorem size_ok (w : World) : ((boot_heap w.params).isNs mainGlobals && gs.size == 0, (boot_heap w.params).objs.size, (boot_heap w.params).nsMap mainGlobals "__annotations__") = (true, 11, ann) := by kernel_rfl
noncomputable abbrev hook : Hook := kHook K as (fun _ => by kernel_rfl)
noncomputable abbrev law' : OpenLaw := PySem.Challenge.rw_ui0503_08
theorem said_ok : law'.wellSaid = true := by kernel_rfl
theorem looks_ok (w : World) : (fun os => ((staticsOk (importedModules pw.main.body) (boot_heap w.params) (Hf w.params) && namesBound pw (Hf w.params) && gensDone ⟨Hf w.params, gs, dr, 789, os⟩ && laidKept (boot_heap w.params) (Hf w.params)),
        openSeen view loose (importedModules pw.main.body) (fun s => xlAt view [] s && recOk law'.row.toRowW.records s) true ⟨Hf w.params, gs, dr, 789, os⟩, Hook.obs hook ⟨Hf w.params, gs, dr, 789, os⟩)) = fun (_ : OsState) => (true, openGood view loose, Hook.val hook w) := by
  rw [PySem.W.Fast.te4187177175401517315, PySem.W.Fast.te5923862056798008813]; kernel_rfl
theorem left_ok : LeftO pw view loose (fun s => xlAt view [] s && recOk law'.row.toRowW.records s) (Hook.obs hook) (Hook.val hook) 6694 :=
  LeftO.of_pieces (boot_open open_ok rfl fence_ok) size_ok run_ok rfl looks_ok
noncomputable def dk : DefRec × List (Str × Expr) := (defOf view law'.row.name).getD (⟨.empty, noArgs, [], ssc (.Pass ⟨0, 0, 0, 0⟩), ⟨0, 0, 0, 0⟩⟩, [])
theorem dk_ok : defOf view law'.row.name = some (dk.1, dk.2) := by kernel_rfl
theorem dp_ok : law'.row.toRowW.prog.theDef law'.row.name = some (dk.1.params, dk.1.body, dk.1.scope) := by kernel_rfl
theorem kw_ok : kwWritten? dk.1.params.kwonlyargs dk.1.params.kw_defaults = some dk.2 := by kernel_rfl
theorem ok_ok : (chainsOk view && opensWell law'.row.toRowW.prog && (frees law'.row.toRowW && law'.row.within.isEmpty)) = true := by kernel_rfl
end Mine.Hd
open PySem PySem.W PySem.W.X PyProof.Rows
set_option maxHeartbeats 0 in
theorem PySem.Challenge.cw_ui0503_08_holds : PySem.Challenge.rw_ui0503_08.Holds := by
  w_on
  refine holds_law Mine.Hd.said_ok fun said => ?_
  refine holds_open (q := Mine.Hd.view) (loose := Mine.Hd.loose) (XP := XL Mine.Hd.view []) (Yf := Hook.obs Mine.Hd.hook) (Ya := Hook.val Mine.Hd.hook) (YP := Hook.says Mine.Hd.hook) Mine.Hd.left_ok (Hook.of Mine.Hd.hook) (Hook.keeps Mine.Hd.hook) (fun s e => xl_of s (Bool.and_eq_true_iff.mp e).1) XL.keeps Mine.Hd.dk_ok Mine.Hd.dp_ok Mine.Hd.kw_ok (fun s e => recFacts_of (Bool.and_eq_true_iff.mp e).2) (by first | rfl | fail "writes") said Mine.Hd.ok_ok ⟨rfl, rfl, rfl, rfl, rfl, by decide +kernel⟩ ?hw ?hc
  case hw => w_witness2
  intro w s₀ s₁ mg mb G Y fa o pm cd doc dV kV ho hd hcd hD hmg hg args vals as hpre hlay hrd hwl hlo
  have KX := kIn_of Y
  clear hD hcd hd
  refine Ground.open G ?_
  intro T B D TE TW
  try (refine guard_noD D (by decide +kernel) ?_; clear D)
  wrow_args hpre hlay hrd hwl hlo
  first | refine callC_kw (enter_call ?_) | refine enter_call ?_ | refine callC_kw (enter_callW ?_) | refine enter_callW ?_ | w_how
  w_top on
  refine Mine.law_top (G := Mine.L08) (n := 11) (d := Mine.L08_law) (l := PySem.Challenge.rw_ui0503_08) (tabs := [(447, 443)]) Mine.updOk (fun _ _ _ _ => Mine.sortOk) KX T (by decide +kernel) rfl hg (by assumption) (by assumption) rfl hmg ?htab rfl (by decide) ?hnt rfl ?hm (by decide) ?hz (Mine.L8.law08 _ (by omega))
  case htab =>
    intro q hq
    rw [List.mem_singleton] at hq
    subst hq
    exact ⟨_, "accept", rfl, by kernel_rfl⟩
  case hnt => kernel_rfl
  case hm =>
    intro a o
    kernel_rfl
  case hz =>
    intro a o p loose
    exact .inr ⟨_, _, _, rfl, rfl, ⟨_, _, rfl, rfl⟩, ⟨_, _, rfl, rfl⟩, trivial⟩
