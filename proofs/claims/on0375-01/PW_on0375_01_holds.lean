import PyProof.Rows.All
import Wide.All
import OpenK.AllK
import Wide.FinOn
import PySem.Challenge.RW_on0375_01
open PySem PySem.Spec PySem.Calls PyProof.Rows PySem.W
set_option Elab.async false
set_option autoImplicit false
set_option linter.all false
set_option genSizeOf false
set_option genInjectivity false
namespace Mine
theorem bc{p:Prop}(h:(p→False)→False):p:=Classical.byContradiction h
section
universe u
variable{α β γ:Type u}{G:Prop}{z:Option α}{a c:α}{b d:β}{x y:γ}
theorem nos(e:none=some b):G:=nomatch e
theorem nso(e:some b=none):G:=nomatch e
theorem ntf(e:true=false):G:=nomatch e
theorem nft(e:false=true):G:=nomatch e
theorem nn(e:z=none)(q:z=some a):G:=nos (e.symm.trans q)
theorem oin(e:z=some a)(q:z=some c):a=c:=Option.some.inj (e.symm.trans q)
theorem sin(e:some a=some c):a=c:=Option.some.inj e
theorem sni(e:some a=some c):c=a:=(sin e).symm
theorem ppj(e:(a,b)=(c,d)):c=a∧d=b:=(Prod.mk.inj e).imp Eq.symm Eq.symm
theorem spi(e:some (a,b)=some (c,d)):a=c∧b=d:=Prod.mk.inj (sin e)
theorem spj(e:some (a,b)=some (c,d)):c=a∧d=b:=ppj (sin e)
theorem pqi(e:((a,b),x)=((c,d),y)):a=c∧b=d∧x=y:=have q:=Prod.mk.inj e;have r:=Prod.mk.inj q.1;⟨r.1,r.2,q.2⟩
theorem sqi(e:some ((a,b),x)=some ((c,d),y)):a=c∧b=d∧x=y:=pqi (sin e)
end
section
variable{A B C D F H K:Sort _}{G:Prop}
section
variable{p0 p1 p2 p3 p4 p5 p6 p7 p8:Prop}
theorem E01(e:p0)(f:p0→G):G:=f e
theorem E02(e:p0∧p1)(f:p0→p1→G):G:=f e.1 e.2
theorem E03(e:p0∧p1∧p2)(f:p0→p1→p2→G):G:=E02 e.2 (f e.1)
theorem I03 (h0:p0)(h1:p1)(h2:p2):p0∧p1∧p2:=⟨h0,h1,h2⟩
theorem E04(e:p0∧p1∧p2∧p3)(f:p0→p1→p2→p3→G):G:=E03 e.2 (f e.1)
theorem I04 (h0:p0)(h1:p1)(h2:p2)(h3:p3):p0∧p1∧p2∧p3:=⟨h0,h1,h2,h3⟩
theorem E05(e:p0∧p1∧p2∧p3∧p4)(f:p0→p1→p2→p3→p4→G):G:=E04 e.2 (f e.1)
theorem I05 (h0:p0)(h1:p1)(h2:p2)(h3:p3)(h4:p4):p0∧p1∧p2∧p3∧p4:=⟨h0,h1,h2,h3,h4⟩
theorem E06(e:p0∧p1∧p2∧p3∧p4∧p5)(f:p0→p1→p2→p3→p4→p5→G):G:=E05 e.2 (f e.1)
theorem I06 (h0:p0)(h1:p1)(h2:p2)(h3:p3)(h4:p4)(h5:p5):p0∧p1∧p2∧p3∧p4∧p5:=⟨h0,h1,h2,h3,h4,h5⟩
theorem E07(e:p0∧p1∧p2∧p3∧p4∧p5∧p6)(f:p0→p1→p2→p3→p4→p5→p6→G):G:=E06 e.2 (f e.1)
theorem E08(e:p0∧p1∧p2∧p3∧p4∧p5∧p6∧p7)(f:p0→p1→p2→p3→p4→p5→p6→p7→G):G:=E07 e.2 (f e.1)
theorem E09(e:p0∧p1∧p2∧p3∧p4∧p5∧p6∧p7∧p8)(f:p0→p1→p2→p3→p4→p5→p6→p7→p8→G):G:=E08 e.2 (f e.1)
end
section
variable{p0 p1 p2 p3 p4 p5 p6 p7 p8:A→Prop}
theorem E11(e:∃a0,p0 a0)(f:∀a0,p0 a0→G):G:=e.elim λa h=>E01 h (f a)
theorem I11(a0:A)(h0:p0 a0):∃a0,p0 a0:=⟨a0,h0⟩
theorem E12(e:∃a0,p0 a0∧p1 a0)(f:∀a0,p0 a0→p1 a0→G):G:=e.elim λa h=>E02 h (f a)
theorem I12(a0:A)(h0:p0 a0)(h1:p1 a0):∃a0,p0 a0∧p1 a0:=⟨a0,h0,h1⟩
theorem E13(e:∃a0,p0 a0∧p1 a0∧p2 a0)(f:∀a0,p0 a0→p1 a0→p2 a0→G):G:=e.elim λa h=>E03 h (f a)
theorem I13(a0:A)(h0:p0 a0)(h1:p1 a0)(h2:p2 a0):∃a0,p0 a0∧p1 a0∧p2 a0:=⟨a0,h0,h1,h2⟩
theorem E14(e:∃a0,p0 a0∧p1 a0∧p2 a0∧p3 a0)(f:∀a0,p0 a0→p1 a0→p2 a0→p3 a0→G):G:=e.elim λa h=>E04 h (f a)
theorem I14(a0:A)(h0:p0 a0)(h1:p1 a0)(h2:p2 a0)(h3:p3 a0):∃a0,p0 a0∧p1 a0∧p2 a0∧p3 a0:=⟨a0,h0,h1,h2,h3⟩
theorem E15(e:∃a0,p0 a0∧p1 a0∧p2 a0∧p3 a0∧p4 a0)(f:∀a0,p0 a0→p1 a0→p2 a0→p3 a0→p4 a0→G):G:=e.elim λa h=>E05 h (f a)
theorem I15(a0:A)(h0:p0 a0)(h1:p1 a0)(h2:p2 a0)(h3:p3 a0)(h4:p4 a0):∃a0,p0 a0∧p1 a0∧p2 a0∧p3 a0∧p4 a0:=⟨a0,h0,h1,h2,h3,h4⟩
theorem E16(e:∃a0,p0 a0∧p1 a0∧p2 a0∧p3 a0∧p4 a0∧p5 a0)(f:∀a0,p0 a0→p1 a0→p2 a0→p3 a0→p4 a0→p5 a0→G):G:=e.elim λa h=>E06 h (f a)
theorem E17(e:∃a0,p0 a0∧p1 a0∧p2 a0∧p3 a0∧p4 a0∧p5 a0∧p6 a0)(f:∀a0,p0 a0→p1 a0→p2 a0→p3 a0→p4 a0→p5 a0→p6 a0→G):G:=e.elim λa h=>E07 h (f a)
theorem E18(e:∃a0,p0 a0∧p1 a0∧p2 a0∧p3 a0∧p4 a0∧p5 a0∧p6 a0∧p7 a0)(f:∀a0,p0 a0→p1 a0→p2 a0→p3 a0→p4 a0→p5 a0→p6 a0→p7 a0→G):G:=e.elim λa h=>E08 h (f a)
theorem E19(e:∃a0,p0 a0∧p1 a0∧p2 a0∧p3 a0∧p4 a0∧p5 a0∧p6 a0∧p7 a0∧p8 a0)(f:∀a0,p0 a0→p1 a0→p2 a0→p3 a0→p4 a0→p5 a0→p6 a0→p7 a0→p8 a0→G):G:=e.elim λa h=>E09 h (f a)
end
section
variable{p0 p1 p2 p3 p4 p5 p6 p7 p8:A→B→Prop}
theorem E21(e:∃a0 a1,p0 a0 a1)(f:∀a0 a1,p0 a0 a1→G):G:=e.elim λa h=>E11 h (f a)
theorem I21(a0:A)(a1:B)(h0:p0 a0 a1):∃a0 a1,p0 a0 a1:=⟨a0,a1,h0⟩
theorem E22(e:∃a0 a1,p0 a0 a1∧p1 a0 a1)(f:∀a0 a1,p0 a0 a1→p1 a0 a1→G):G:=e.elim λa h=>E12 h (f a)
theorem I22(a0:A)(a1:B)(h0:p0 a0 a1)(h1:p1 a0 a1):∃a0 a1,p0 a0 a1∧p1 a0 a1:=⟨a0,a1,h0,h1⟩
theorem E23(e:∃a0 a1,p0 a0 a1∧p1 a0 a1∧p2 a0 a1)(f:∀a0 a1,p0 a0 a1→p1 a0 a1→p2 a0 a1→G):G:=e.elim λa h=>E13 h (f a)
theorem I23(a0:A)(a1:B)(h0:p0 a0 a1)(h1:p1 a0 a1)(h2:p2 a0 a1):∃a0 a1,p0 a0 a1∧p1 a0 a1∧p2 a0 a1:=⟨a0,a1,h0,h1,h2⟩
theorem E24(e:∃a0 a1,p0 a0 a1∧p1 a0 a1∧p2 a0 a1∧p3 a0 a1)(f:∀a0 a1,p0 a0 a1→p1 a0 a1→p2 a0 a1→p3 a0 a1→G):G:=e.elim λa h=>E14 h (f a)
theorem I24(a0:A)(a1:B)(h0:p0 a0 a1)(h1:p1 a0 a1)(h2:p2 a0 a1)(h3:p3 a0 a1):∃a0 a1,p0 a0 a1∧p1 a0 a1∧p2 a0 a1∧p3 a0 a1:=⟨a0,a1,h0,h1,h2,h3⟩
theorem E25(e:∃a0 a1,p0 a0 a1∧p1 a0 a1∧p2 a0 a1∧p3 a0 a1∧p4 a0 a1)(f:∀a0 a1,p0 a0 a1→p1 a0 a1→p2 a0 a1→p3 a0 a1→p4 a0 a1→G):G:=e.elim λa h=>E15 h (f a)
theorem I25(a0:A)(a1:B)(h0:p0 a0 a1)(h1:p1 a0 a1)(h2:p2 a0 a1)(h3:p3 a0 a1)(h4:p4 a0 a1):∃a0 a1,p0 a0 a1∧p1 a0 a1∧p2 a0 a1∧p3 a0 a1∧p4 a0 a1:=⟨a0,a1,h0,h1,h2,h3,h4⟩
theorem E26(e:∃a0 a1,p0 a0 a1∧p1 a0 a1∧p2 a0 a1∧p3 a0 a1∧p4 a0 a1∧p5 a0 a1)(f:∀a0 a1,p0 a0 a1→p1 a0 a1→p2 a0 a1→p3 a0 a1→p4 a0 a1→p5 a0 a1→G):G:=e.elim λa h=>E16 h (f a)
theorem I26(a0:A)(a1:B)(h0:p0 a0 a1)(h1:p1 a0 a1)(h2:p2 a0 a1)(h3:p3 a0 a1)(h4:p4 a0 a1)(h5:p5 a0 a1):∃a0 a1,p0 a0 a1∧p1 a0 a1∧p2 a0 a1∧p3 a0 a1∧p4 a0 a1∧p5 a0 a1:=⟨a0,a1,h0,h1,h2,h3,h4,h5⟩
theorem E27(e:∃a0 a1,p0 a0 a1∧p1 a0 a1∧p2 a0 a1∧p3 a0 a1∧p4 a0 a1∧p5 a0 a1∧p6 a0 a1)(f:∀a0 a1,p0 a0 a1→p1 a0 a1→p2 a0 a1→p3 a0 a1→p4 a0 a1→p5 a0 a1→p6 a0 a1→G):G:=e.elim λa h=>E17 h (f a)
theorem E28(e:∃a0 a1,p0 a0 a1∧p1 a0 a1∧p2 a0 a1∧p3 a0 a1∧p4 a0 a1∧p5 a0 a1∧p6 a0 a1∧p7 a0 a1)(f:∀a0 a1,p0 a0 a1→p1 a0 a1→p2 a0 a1→p3 a0 a1→p4 a0 a1→p5 a0 a1→p6 a0 a1→p7 a0 a1→G):G:=e.elim λa h=>E18 h (f a)
theorem I28(a0:A)(a1:B)(h0:p0 a0 a1)(h1:p1 a0 a1)(h2:p2 a0 a1)(h3:p3 a0 a1)(h4:p4 a0 a1)(h5:p5 a0 a1)(h6:p6 a0 a1)(h7:p7 a0 a1):∃a0 a1,p0 a0 a1∧p1 a0 a1∧p2 a0 a1∧p3 a0 a1∧p4 a0 a1∧p5 a0 a1∧p6 a0 a1∧p7 a0 a1:=⟨a0,a1,h0,h1,h2,h3,h4,h5,h6,h7⟩
theorem E29(e:∃a0 a1,p0 a0 a1∧p1 a0 a1∧p2 a0 a1∧p3 a0 a1∧p4 a0 a1∧p5 a0 a1∧p6 a0 a1∧p7 a0 a1∧p8 a0 a1)(f:∀a0 a1,p0 a0 a1→p1 a0 a1→p2 a0 a1→p3 a0 a1→p4 a0 a1→p5 a0 a1→p6 a0 a1→p7 a0 a1→p8 a0 a1→G):G:=e.elim λa h=>E19 h (f a)
end
section
variable{p0 p1 p2 p3 p4 p5 p6 p7 p8:A→B→C→Prop}
theorem E32(e:∃a0 a1 a2,p0 a0 a1 a2∧p1 a0 a1 a2)(f:∀a0 a1 a2,p0 a0 a1 a2→p1 a0 a1 a2→G):G:=e.elim λa h=>E22 h (f a)
theorem I32(a0:A)(a1:B)(a2:C)(h0:p0 a0 a1 a2)(h1:p1 a0 a1 a2):∃a0 a1 a2,p0 a0 a1 a2∧p1 a0 a1 a2:=⟨a0,a1,a2,h0,h1⟩
theorem E33(e:∃a0 a1 a2,p0 a0 a1 a2∧p1 a0 a1 a2∧p2 a0 a1 a2)(f:∀a0 a1 a2,p0 a0 a1 a2→p1 a0 a1 a2→p2 a0 a1 a2→G):G:=e.elim λa h=>E23 h (f a)
theorem I33(a0:A)(a1:B)(a2:C)(h0:p0 a0 a1 a2)(h1:p1 a0 a1 a2)(h2:p2 a0 a1 a2):∃a0 a1 a2,p0 a0 a1 a2∧p1 a0 a1 a2∧p2 a0 a1 a2:=⟨a0,a1,a2,h0,h1,h2⟩
theorem E34(e:∃a0 a1 a2,p0 a0 a1 a2∧p1 a0 a1 a2∧p2 a0 a1 a2∧p3 a0 a1 a2)(f:∀a0 a1 a2,p0 a0 a1 a2→p1 a0 a1 a2→p2 a0 a1 a2→p3 a0 a1 a2→G):G:=e.elim λa h=>E24 h (f a)
theorem I34(a0:A)(a1:B)(a2:C)(h0:p0 a0 a1 a2)(h1:p1 a0 a1 a2)(h2:p2 a0 a1 a2)(h3:p3 a0 a1 a2):∃a0 a1 a2,p0 a0 a1 a2∧p1 a0 a1 a2∧p2 a0 a1 a2∧p3 a0 a1 a2:=⟨a0,a1,a2,h0,h1,h2,h3⟩
theorem E35(e:∃a0 a1 a2,p0 a0 a1 a2∧p1 a0 a1 a2∧p2 a0 a1 a2∧p3 a0 a1 a2∧p4 a0 a1 a2)(f:∀a0 a1 a2,p0 a0 a1 a2→p1 a0 a1 a2→p2 a0 a1 a2→p3 a0 a1 a2→p4 a0 a1 a2→G):G:=e.elim λa h=>E25 h (f a)
theorem I35(a0:A)(a1:B)(a2:C)(h0:p0 a0 a1 a2)(h1:p1 a0 a1 a2)(h2:p2 a0 a1 a2)(h3:p3 a0 a1 a2)(h4:p4 a0 a1 a2):∃a0 a1 a2,p0 a0 a1 a2∧p1 a0 a1 a2∧p2 a0 a1 a2∧p3 a0 a1 a2∧p4 a0 a1 a2:=⟨a0,a1,a2,h0,h1,h2,h3,h4⟩
theorem E36(e:∃a0 a1 a2,p0 a0 a1 a2∧p1 a0 a1 a2∧p2 a0 a1 a2∧p3 a0 a1 a2∧p4 a0 a1 a2∧p5 a0 a1 a2)(f:∀a0 a1 a2,p0 a0 a1 a2→p1 a0 a1 a2→p2 a0 a1 a2→p3 a0 a1 a2→p4 a0 a1 a2→p5 a0 a1 a2→G):G:=e.elim λa h=>E26 h (f a)
theorem I36(a0:A)(a1:B)(a2:C)(h0:p0 a0 a1 a2)(h1:p1 a0 a1 a2)(h2:p2 a0 a1 a2)(h3:p3 a0 a1 a2)(h4:p4 a0 a1 a2)(h5:p5 a0 a1 a2):∃a0 a1 a2,p0 a0 a1 a2∧p1 a0 a1 a2∧p2 a0 a1 a2∧p3 a0 a1 a2∧p4 a0 a1 a2∧p5 a0 a1 a2:=⟨a0,a1,a2,h0,h1,h2,h3,h4,h5⟩
theorem E37(e:∃a0 a1 a2,p0 a0 a1 a2∧p1 a0 a1 a2∧p2 a0 a1 a2∧p3 a0 a1 a2∧p4 a0 a1 a2∧p5 a0 a1 a2∧p6 a0 a1 a2)(f:∀a0 a1 a2,p0 a0 a1 a2→p1 a0 a1 a2→p2 a0 a1 a2→p3 a0 a1 a2→p4 a0 a1 a2→p5 a0 a1 a2→p6 a0 a1 a2→G):G:=e.elim λa h=>E27 h (f a)
theorem I37(a0:A)(a1:B)(a2:C)(h0:p0 a0 a1 a2)(h1:p1 a0 a1 a2)(h2:p2 a0 a1 a2)(h3:p3 a0 a1 a2)(h4:p4 a0 a1 a2)(h5:p5 a0 a1 a2)(h6:p6 a0 a1 a2):∃a0 a1 a2,p0 a0 a1 a2∧p1 a0 a1 a2∧p2 a0 a1 a2∧p3 a0 a1 a2∧p4 a0 a1 a2∧p5 a0 a1 a2∧p6 a0 a1 a2:=⟨a0,a1,a2,h0,h1,h2,h3,h4,h5,h6⟩
theorem I38(a0:A)(a1:B)(a2:C)(h0:p0 a0 a1 a2)(h1:p1 a0 a1 a2)(h2:p2 a0 a1 a2)(h3:p3 a0 a1 a2)(h4:p4 a0 a1 a2)(h5:p5 a0 a1 a2)(h6:p6 a0 a1 a2)(h7:p7 a0 a1 a2):∃a0 a1 a2,p0 a0 a1 a2∧p1 a0 a1 a2∧p2 a0 a1 a2∧p3 a0 a1 a2∧p4 a0 a1 a2∧p5 a0 a1 a2∧p6 a0 a1 a2∧p7 a0 a1 a2:=⟨a0,a1,a2,h0,h1,h2,h3,h4,h5,h6,h7⟩
theorem E39(e:∃a0 a1 a2,p0 a0 a1 a2∧p1 a0 a1 a2∧p2 a0 a1 a2∧p3 a0 a1 a2∧p4 a0 a1 a2∧p5 a0 a1 a2∧p6 a0 a1 a2∧p7 a0 a1 a2∧p8 a0 a1 a2)(f:∀a0 a1 a2,p0 a0 a1 a2→p1 a0 a1 a2→p2 a0 a1 a2→p3 a0 a1 a2→p4 a0 a1 a2→p5 a0 a1 a2→p6 a0 a1 a2→p7 a0 a1 a2→p8 a0 a1 a2→G):G:=e.elim λa h=>E29 h (f a)
end
section
variable{p0 p1 p2 p3 p4 p5 p6 p7:A→B→C→D→Prop}
theorem E42(e:∃a0 a1 a2 a3,p0 a0 a1 a2 a3∧p1 a0 a1 a2 a3)(f:∀a0 a1 a2 a3,p0 a0 a1 a2 a3→p1 a0 a1 a2 a3→G):G:=e.elim λa h=>E32 h (f a)
theorem E43(e:∃a0 a1 a2 a3,p0 a0 a1 a2 a3∧p1 a0 a1 a2 a3∧p2 a0 a1 a2 a3)(f:∀a0 a1 a2 a3,p0 a0 a1 a2 a3→p1 a0 a1 a2 a3→p2 a0 a1 a2 a3→G):G:=e.elim λa h=>E33 h (f a)
theorem E44(e:∃a0 a1 a2 a3,p0 a0 a1 a2 a3∧p1 a0 a1 a2 a3∧p2 a0 a1 a2 a3∧p3 a0 a1 a2 a3)(f:∀a0 a1 a2 a3,p0 a0 a1 a2 a3→p1 a0 a1 a2 a3→p2 a0 a1 a2 a3→p3 a0 a1 a2 a3→G):G:=e.elim λa h=>E34 h (f a)
theorem I44(a0:A)(a1:B)(a2:C)(a3:D)(h0:p0 a0 a1 a2 a3)(h1:p1 a0 a1 a2 a3)(h2:p2 a0 a1 a2 a3)(h3:p3 a0 a1 a2 a3):∃a0 a1 a2 a3,p0 a0 a1 a2 a3∧p1 a0 a1 a2 a3∧p2 a0 a1 a2 a3∧p3 a0 a1 a2 a3:=⟨a0,a1,a2,a3,h0,h1,h2,h3⟩
theorem E45(e:∃a0 a1 a2 a3,p0 a0 a1 a2 a3∧p1 a0 a1 a2 a3∧p2 a0 a1 a2 a3∧p3 a0 a1 a2 a3∧p4 a0 a1 a2 a3)(f:∀a0 a1 a2 a3,p0 a0 a1 a2 a3→p1 a0 a1 a2 a3→p2 a0 a1 a2 a3→p3 a0 a1 a2 a3→p4 a0 a1 a2 a3→G):G:=e.elim λa h=>E35 h (f a)
theorem I45(a0:A)(a1:B)(a2:C)(a3:D)(h0:p0 a0 a1 a2 a3)(h1:p1 a0 a1 a2 a3)(h2:p2 a0 a1 a2 a3)(h3:p3 a0 a1 a2 a3)(h4:p4 a0 a1 a2 a3):∃a0 a1 a2 a3,p0 a0 a1 a2 a3∧p1 a0 a1 a2 a3∧p2 a0 a1 a2 a3∧p3 a0 a1 a2 a3∧p4 a0 a1 a2 a3:=⟨a0,a1,a2,a3,h0,h1,h2,h3,h4⟩
theorem E46(e:∃a0 a1 a2 a3,p0 a0 a1 a2 a3∧p1 a0 a1 a2 a3∧p2 a0 a1 a2 a3∧p3 a0 a1 a2 a3∧p4 a0 a1 a2 a3∧p5 a0 a1 a2 a3)(f:∀a0 a1 a2 a3,p0 a0 a1 a2 a3→p1 a0 a1 a2 a3→p2 a0 a1 a2 a3→p3 a0 a1 a2 a3→p4 a0 a1 a2 a3→p5 a0 a1 a2 a3→G):G:=e.elim λa h=>E36 h (f a)
theorem I46(a0:A)(a1:B)(a2:C)(a3:D)(h0:p0 a0 a1 a2 a3)(h1:p1 a0 a1 a2 a3)(h2:p2 a0 a1 a2 a3)(h3:p3 a0 a1 a2 a3)(h4:p4 a0 a1 a2 a3)(h5:p5 a0 a1 a2 a3):∃a0 a1 a2 a3,p0 a0 a1 a2 a3∧p1 a0 a1 a2 a3∧p2 a0 a1 a2 a3∧p3 a0 a1 a2 a3∧p4 a0 a1 a2 a3∧p5 a0 a1 a2 a3:=⟨a0,a1,a2,a3,h0,h1,h2,h3,h4,h5⟩
theorem I48(a0:A)(a1:B)(a2:C)(a3:D)(h0:p0 a0 a1 a2 a3)(h1:p1 a0 a1 a2 a3)(h2:p2 a0 a1 a2 a3)(h3:p3 a0 a1 a2 a3)(h4:p4 a0 a1 a2 a3)(h5:p5 a0 a1 a2 a3)(h6:p6 a0 a1 a2 a3)(h7:p7 a0 a1 a2 a3):∃a0 a1 a2 a3,p0 a0 a1 a2 a3∧p1 a0 a1 a2 a3∧p2 a0 a1 a2 a3∧p3 a0 a1 a2 a3∧p4 a0 a1 a2 a3∧p5 a0 a1 a2 a3∧p6 a0 a1 a2 a3∧p7 a0 a1 a2 a3:=⟨a0,a1,a2,a3,h0,h1,h2,h3,h4,h5,h6,h7⟩
end
section
variable{p0 p1 p2 p3 p4 p5:A→B→C→D→F→Prop}
theorem E55(e:∃a0 a1 a2 a3 a4,p0 a0 a1 a2 a3 a4∧p1 a0 a1 a2 a3 a4∧p2 a0 a1 a2 a3 a4∧p3 a0 a1 a2 a3 a4∧p4 a0 a1 a2 a3 a4)(f:∀a0 a1 a2 a3 a4,p0 a0 a1 a2 a3 a4→p1 a0 a1 a2 a3 a4→p2 a0 a1 a2 a3 a4→p3 a0 a1 a2 a3 a4→p4 a0 a1 a2 a3 a4→G):G:=e.elim λa h=>E45 h (f a)
theorem I55(a0:A)(a1:B)(a2:C)(a3:D)(a4:F)(h0:p0 a0 a1 a2 a3 a4)(h1:p1 a0 a1 a2 a3 a4)(h2:p2 a0 a1 a2 a3 a4)(h3:p3 a0 a1 a2 a3 a4)(h4:p4 a0 a1 a2 a3 a4):∃a0 a1 a2 a3 a4,p0 a0 a1 a2 a3 a4∧p1 a0 a1 a2 a3 a4∧p2 a0 a1 a2 a3 a4∧p3 a0 a1 a2 a3 a4∧p4 a0 a1 a2 a3 a4:=⟨a0,a1,a2,a3,a4,h0,h1,h2,h3,h4⟩
theorem E56(e:∃a0 a1 a2 a3 a4,p0 a0 a1 a2 a3 a4∧p1 a0 a1 a2 a3 a4∧p2 a0 a1 a2 a3 a4∧p3 a0 a1 a2 a3 a4∧p4 a0 a1 a2 a3 a4∧p5 a0 a1 a2 a3 a4)(f:∀a0 a1 a2 a3 a4,p0 a0 a1 a2 a3 a4→p1 a0 a1 a2 a3 a4→p2 a0 a1 a2 a3 a4→p3 a0 a1 a2 a3 a4→p4 a0 a1 a2 a3 a4→p5 a0 a1 a2 a3 a4→G):G:=e.elim λa h=>E46 h (f a)
end
section
variable{p0 p1 p2 p3 p4 p5:A→B→C→D→F→H→Prop}
theorem E66(e:∃a0 a1 a2 a3 a4 a5,p0 a0 a1 a2 a3 a4 a5∧p1 a0 a1 a2 a3 a4 a5∧p2 a0 a1 a2 a3 a4 a5∧p3 a0 a1 a2 a3 a4 a5∧p4 a0 a1 a2 a3 a4 a5∧p5 a0 a1 a2 a3 a4 a5)(f:∀a0 a1 a2 a3 a4 a5,p0 a0 a1 a2 a3 a4 a5→p1 a0 a1 a2 a3 a4 a5→p2 a0 a1 a2 a3 a4 a5→p3 a0 a1 a2 a3 a4 a5→p4 a0 a1 a2 a3 a4 a5→p5 a0 a1 a2 a3 a4 a5→G):G:=e.elim λa h=>E56 h (f a)
theorem I66(a0:A)(a1:B)(a2:C)(a3:D)(a4:F)(a5:H)(h0:p0 a0 a1 a2 a3 a4 a5)(h1:p1 a0 a1 a2 a3 a4 a5)(h2:p2 a0 a1 a2 a3 a4 a5)(h3:p3 a0 a1 a2 a3 a4 a5)(h4:p4 a0 a1 a2 a3 a4 a5)(h5:p5 a0 a1 a2 a3 a4 a5):∃a0 a1 a2 a3 a4 a5,p0 a0 a1 a2 a3 a4 a5∧p1 a0 a1 a2 a3 a4 a5∧p2 a0 a1 a2 a3 a4 a5∧p3 a0 a1 a2 a3 a4 a5∧p4 a0 a1 a2 a3 a4 a5∧p5 a0 a1 a2 a3 a4 a5:=⟨a0,a1,a2,a3,a4,a5,h0,h1,h2,h3,h4,h5⟩
end
end
inductive V where
 |none|bool (b:Bool)|int (i:Int)|str (s:List Nat)|tup (vs:List V)|ref (k:Nat)|adr (a:Addr)|bi (id:String)|ty (n:String)
inductive AO where
 |list (xs:List V)
 |inst (C:Addr) (d:Nat)
 |ns (es:List (List Nat×V))
 |sd (es:List (List Nat×V))
 |idt (es:List (Int×V))
 |td (es:List (List Int×V))
noncomputable def lk{α:Type}(k:Nat):List (Nat×α)→Option α
 | []=>none
 |p::r=>match Nat.beq p.1 k with
  |true=>some p.2
  |false=>lk k r
noncomputable def up{α:Type}(k:Nat)(x:α):List (Nat×α)→List (Nat×α)
 | []=>[(k,x)]
 |p::r=>match Nat.beq p.1 k with
  |true=>(k,x)::r
  |false=>p::up k x r
theorem beq_eq(a b:Nat):Nat.beq a b=decide (a=b):=by
 cases h:Nat.beq a b with
 |true=>rw[Nat.eq_of_beq_eq_true h];simp
 |false=>have:=Nat.ne_of_beq_eq_false h;simp[this]
theorem lk_up{α:Type}(k:Nat)(x:α)(k':Nat):∀l:List (Nat×α),lk k' (up k x l)=if k'=k then some x else lk k' l
 | []=>by
   simp only[up,lk,beq_eq]
   by_cases h:k'=k
   ·subst h;simp
   ·have:¬k=k':=λe=>h e.symm
    simp[h,this]
 |p::r=>by
  have ih:=lk_up k x k' r
  simp only[up,beq_eq]
  by_cases h:p.1=k
  ·simp only[h,decide_true,lk,beq_eq]
   by_cases q:k'=k
   ·subst q;simp
   ·have:¬k=k':=λe=>q e.symm
    simp[q,this]
  ·simp only[decide_eq_false h,lk,beq_eq,ih]
   by_cases q:k'=k
   ·subst q;simp[h]
   ·simp[q]
mutual
inductive VR (n:Nat) (ρ:Nat→Addr) (h:Heap):V→Value→Prop
 |none:VR n ρ h .none .none
 |bool (b:Bool):VR n ρ h (.bool b) (.bool b)
 |int (i:Int) (t:Tok):VR n ρ h (.int i) (.int i t)
 |str {l:List Nat} (x:Str) (t:Tok) (e:x.cps.toList=l):VR n ρ h (.str l) (.str x t)
 |tup {vs:List V} {a:Addr} {items:Array Value}:h.IsTuple a items→VRs n ρ h vs items.toList→VR n ρ h (.tup vs) (.ref a)
 |ref {k:Nat}:k<n→VR n ρ h (.ref k) (.ref (ρ k))
 |adr (a:Addr):VR n ρ h (.adr a) (.ref a)
 |bi (id:String):VR n ρ h (.bi id) (.builtin id)
 |ty (x:String):VR n ρ h (.ty x) (.type x)
inductive VRs (n:Nat) (ρ:Nat→Addr) (h:Heap):List V→List Value→Prop
 |nil:VRs n ρ h [] []
 |cons {v:V} {v':Value} {vs:List V} {vs':List Value}:VR n ρ h v v'→VRs n ρ h vs vs'→VRs n ρ h (v::vs) (v'::vs')
end
noncomputable def VI(n:Nat)(ρ:Nat→Addr)(h:Heap):V→Value→Prop
 |.none,x=>x=.none
 |.bool b,x=>x=.bool b
 |.int i,x=>∃t,x=.int i t
 |.str l,x=>∃y t,x=.str y t∧y.cps.toList=l
 |.tup vs,x=>∃a items,x=.ref a∧h.IsTuple a items∧VRs n ρ h vs items.toList
 |.ref k,x=>x=.ref (ρ k)∧k<n
 |.adr a,x=>x=.ref a
 |.bi id,x=>x=.builtin id
 |.ty y,x=>x=.type y
noncomputable def VIs(n:Nat)(ρ:Nat→Addr)(h:Heap):List V→List Value→Prop
 | [],xs=>xs=[]
 |v::vs,xs=>∃x ys,xs=x::ys∧VR n ρ h v x∧VRs n ρ h vs ys
theorem VR.inv{n:Nat}{ρ:Nat→Addr}{h:Heap}{v:V}{x:Value}(r:VR n ρ h v x):VI n ρ h v x:=
 VR.rec (motive_1:=λv x _=>VI n ρ h v x) (motive_2:=λ_ _ _=>True) rfl (λ_=>rfl) (λ_ t=>⟨t,rfl⟩) (λy t e=>⟨y,t,rfl,e⟩) (λht hs _=>⟨_,_,rfl,ht,hs⟩) (λhk=>⟨rfl,hk⟩) (λ_=>rfl) (λ_=>rfl) (λ_=>rfl) trivial (λ_ _ _ _=>trivial) r
theorem VRs.inv{n:Nat}{ρ:Nat→Addr}{h:Heap}{vs:List V}{xs:List Value}(r:VRs n ρ h vs xs):VIs n ρ h vs xs:=
 VRs.rec (motive_1:=λ_ _ _=>True) (motive_2:=λvs xs _=>VIs n ρ h vs xs) trivial (λ_=>trivial) (λ_ _=>trivial) (λ_ _ _=>trivial) (λ_ _ _=>trivial) (λ_=>trivial) (λ_=>trivial) (λ_=>trivial) (λ_=>trivial) rfl (λa b _ _=>⟨_,_,rfl,a,b⟩) r
theorem VRs.inv1{n:Nat}{ρ:Nat→Addr}{h:Heap}{v:V}{vs:List V}{xs:List Value}(r:VRs n ρ h (v::vs) xs):∃x ys,xs=x::ys∧VR n ρ h v x∧VRs n ρ h vs ys:=r.inv
theorem VRs.inv0{n:Nat}{ρ:Nat→Addr}{h:Heap}{xs:List Value}(r:VRs n ρ h [] xs):xs=[]:=r.inv
theorem VRs.two{n:Nat}{ρ:Nat→Addr}{h:Heap}{a b:V}{vs':List Value}(r:VRs n ρ h [a,b] vs'):∃a' b',vs'=[a',b']∧VR n ρ h a a'∧VR n ρ h b b':=
 E23 r.inv1 λx xs e ra r=>E23 r.inv1 λy ys e2 rb r=>I23 x y (by rw[e,e2,r.inv0]) ra rb
theorem VRs.one{n:Nat}{ρ:Nat→Addr}{h:Heap}{a:V}{vs':List Value}(r:VRs n ρ h [a] vs'):∃a',vs'=[a']∧VR n ρ h a a':=
 E23 r.inv1 λx xs e ra r=>I12 x (by rw[e,r.inv0]) ra
theorem VRs.three{n:Nat}{ρ:Nat→Addr}{h:Heap}{a b e:V}{vs':List Value}(r:VRs n ρ h [a,b,e] vs'):∃a' b' e',vs'=[a',b',e']∧VR n ρ h a a'∧VR n ρ h b b'∧VR n ρ h e e':=
 E23 r.inv1 λx xs e ra r=>E23 r.two λy z e2 rb rc=>I34 x y z (by rw[e,e2]) ra rb rc
inductive NsR (n:Nat) (ρ:Nat→Addr) (h:Heap):List (List Nat×V)→List DictEntry→Prop
 |nil:NsR n ρ h [] []
 |cons {l:List Nat} {v:V} {e:DictEntry} {es:List (List Nat×V)} {r:List DictEntry} (x:Str) (t:Tok):x.cps.toList=l→e.key=.str x t→VR n ρ h v e.val→NsR n ρ h es r→NsR n ρ h ((l,v)::es) (e::r)
inductive KVR {K:Type} (n:Nat) (ρ:Nat→Addr) (h:Heap):List (K×V)→List (K×Value)→Prop
 |nil:KVR n ρ h [] []
 |cons {k:K} {v:V} {v':Value} {es:List (K×V)} {r:List (K×Value)}:VR n ρ h v v'→KVR n ρ h es r→KVR n ρ h ((k,v)::es) ((k,v')::r)
structure Tr (n:Nat) (ρ:Nat→Addr) (h:Heap) (n':Nat) (ρ':Nat→Addr) (h':Heap):Prop where
 le:n≤n'
 ext:∀k,k<n→ρ' k=ρ k
 tup:∀a items,h.IsTuple a items→h'.IsTuple a items
section
variable{n n':Nat}{ρ ρ':Nat→Addr}{h h':Heap}
theorem VRs.ind{P:List V→List Value→Prop}{vs:List V}{vs':List Value}(h0:P [] [])(h1:∀ {v v' vs vs'},VR n ρ h v v'→VRs n ρ h vs vs'→P vs vs'→P (v::vs) (v'::vs'))(r:VRs n ρ h vs vs'):P vs vs':=
 VRs.rec (motive_1:=λ_ _ _=>True) (motive_2:=λvs vs' _=>P vs vs') trivial (λ_=>trivial) (λ_ _=>trivial) (λ_ _ _=>trivial) (λ_ _ _=>trivial) (λ_=>trivial) (λ_=>trivial) (λ_=>trivial) (λ_=>trivial) h0 (λa b _ c=>h1 a b c) r
theorem VRs.imp{h1:Heap}{n1:Nat}{ρ1:Nat→Addr}(f:∀ {v v'},VR n ρ h v v'→VR n1 ρ1 h1 v v'){vs:List V}{vs':List Value}(r:VRs n ρ h vs vs'):VRs n1 ρ1 h1 vs vs':=r.ind .nil λa _ b=>.cons (f a) b
theorem VR.tr(T:Tr n ρ h n' ρ' h'){v:V}{v':Value}(r:VR n ρ h v v'):VR n' ρ' h' v v':=
 VR.rec (motive_1:=λv v' _=>VR n' ρ' h' v v') (motive_2:=λvs vs' _=>VRs n' ρ' h' vs vs') .none .bool .int .str (λht _ i=>.tup (T.tup _ _ ht) i) (λhk=>T.ext _ hk▸ .ref (Nat.lt_of_lt_of_le hk T.le)) .adr .bi .ty .nil (λ_ _ a b=>.cons a b) r
theorem VRs.tr(T:Tr n ρ h n' ρ' h'){vs:List V}{vs':List Value}(r:VRs n ρ h vs vs'):VRs n' ρ' h' vs vs':=r.imp λa=>a.tr T
theorem NsR.tr(T:Tr n ρ h n' ρ' h'){es:List (List Nat×V)}{r:List DictEntry}(x:NsR n ρ h es r):NsR n' ρ' h' es r:=by
 induction x with
 |nil=>exact .nil
 |cons x t q e v _ ih=>exact .cons x t q e (v.tr T) ih
theorem KVR.tr{K:Type}(T:Tr n ρ h n' ρ' h'){es:List (K×V)}{r:List (K×Value)}(x:KVR n ρ h es r):KVR n' ρ' h' es r:=by
 induction x with
 |nil=>exact .nil
 |cons v _ ih=>exact .cons (v.tr T) ih
noncomputable def KVI(n:Nat)(ρ:Nat→Addr)(h:Heap){K:Type}(es:List (K×V)):List (K×Value)→Prop
 | []=>es=[]
 |y::r=>∃v es',es=(y.1,v)::es'∧VR n ρ h v y.2∧KVR n ρ h es' r
theorem KVR.inv{K:Type}{es:List (K×V)}{r:List (K×Value)}(x:KVR n ρ h es r):Mine.KVI n ρ h es r:=KVR.rec (motive:=λes r _=>Mine.KVI n ρ h es r) rfl (λa b _=>⟨_,_,rfl,a,b⟩) x
noncomputable def KVL(n:Nat)(ρ:Nat→Addr)(h:Heap){K:Type}:List (K×V)→List (K×Value)→Prop
 | [],r=>r=[]
 |p::es,r=>∃v' ys,r=(p.1,v')::ys∧VR n ρ h p.2 v'∧KVR n ρ h es ys
theorem KVR.invL{K:Type}{es:List (K×V)}{r:List (K×Value)}(x:KVR n ρ h es r):KVL n ρ h es r:=KVR.rec (motive:=λes r _=>KVL n ρ h es r) rfl (λa b _=>⟨_,_,rfl,a,b⟩) x
noncomputable def NsL(n:Nat)(ρ:Nat→Addr)(h:Heap):List (List Nat×V)→List DictEntry→Prop
 | [],r=>r=[]
 |p::es,r=>∃x t e ys,r=e::ys∧x.cps.toList=p.1∧e.key=.str x t∧VR n ρ h p.2 e.val∧NsR n ρ h es ys
theorem NsR.invL{es:List (List Nat×V)}{r:List DictEntry}(x:NsR n ρ h es r):NsL n ρ h es r:=NsR.rec (motive:=λes r _=>NsL n ρ h es r) rfl (λx t a b c d _=>⟨x,t,_,_,rfl,a,b,c,d⟩) x
theorem KVR.inv0{K:Type}{es:List (K×V)}(x:KVR n ρ h es []):es=[]:=x.inv
theorem KVR.inv1{K:Type}{es:List (K×V)}{y:K×Value}{r:List (K×Value)}(x:KVR n ρ h es (y::r)):∃v es',es=(y.1,v)::es'∧VR n ρ h v y.2∧KVR n ρ h es' r:=x.inv
theorem Tr.refl:Tr n ρ h n ρ h:=⟨Nat.le_refl _,λ_ _=>rfl,λ_ _ e=>e⟩
theorem Tr.trans{n'':Nat}{ρ'':Nat→Addr}{h'':Heap}(a:Tr n ρ h n' ρ' h')(b:Tr n' ρ' h' n'' ρ'' h''):Tr n ρ h n'' ρ'' h'':=
 ⟨Nat.le_trans a.le b.le,λk hk=>(b.ext k (Nat.lt_of_lt_of_le hk a.le)).trans (a.ext k hk),λ_ _ e=>b.tup _ _ (a.tup _ _ e)⟩
theorem VRs.length{vs:List V}{vs':List Value}(x:VRs n ρ h vs vs'):vs'.length=vs.length:=x.ind (P:=λvs vs'=>vs'.length=vs.length) rfl λ_ _ e=>congrArg (· +1) e
theorem VRs.append{xs ys:List V}{xs' ys':List Value}(x:VRs n ρ h xs xs')(y:VRs n ρ h ys ys'):VRs n ρ h (xs++ys) (xs'++ys'):=x.ind (P:=λxs xs'=>VRs n ρ h (xs++ys) (xs'++ys')) y λa _ b=>.cons a b
theorem VRs.get{vs:List V}{vs':List Value}(x:VRs n ρ h vs vs'):∀ {i:Nat} {v:V},vs[i]? =some v→∃v',vs'[i]? =some v'∧VR n ρ h v v':=
 x.ind (P:=λvs vs'=>∀ {i:Nat} {v:V},vs[i]? =some v→∃v',vs'[i]? =some v'∧VR n ρ h v v') (λe=>nos (List.getElem?_nil.symm.trans e)) λ{_ v' _ _} a _ b {i} _ e=>match i with
   |0=>⟨v',rfl,sin e▸a⟩
   |_+1=>b e
theorem VRs.of_ints{ns:List Int}{vs':List Value}(x:IntsAre vs' ns):VRs n ρ h (ns.map V.int) vs':=by
 induction x with
 |nil=>exact .nil
 |cons a t _ ih=>exact .cons (.int a t) ih
end
structure Cfg (prog:Program) (w:World) where
 KS:Frag
 H0:Heap
 TB:Addr→Prop
 Tab:Heap→Prop
 SR:List (Nat×AO)
 mg:Str→Option Value
 mb:Str→Option Value
 RD:List (Nat×AO)
 B:Nat
 SC:Option (Addr×List Int)
section
variable{prog:Program}{w:World}
noncomputable def OAt(prog:Program)(w:World)(n:Nat)(ρ:Nat→Addr)(h:Heap)(a:Addr):AO→Prop
 |.list xs=>∃its m,h.get? a=some (listOf its m)∧VRs n ρ h xs its.toList
 |.inst C d=>h.get? a=some (instObj C (ρ d))∧d<n
 |.ns es=>∃des m,h.get? a=some (dictOf des m)∧NsR n ρ h es des
 |.sd es=>(a==sysModules)=false∧∃kvs,h.DictOf (PySem.strKind prog w) a kvs∧KVR n ρ h es (kvs.map λp=>(p.1.cps.toList,p.2))
 |.idt es=>(a==sysModules)=false∧∃kvs,h.DictOf (PySem.intKind prog w) a kvs∧KVR n ρ h es kvs
 |.td es=>(a==sysModules)=false∧∃xs,h.DictOfH (PySem.tupleKind (PySem.intKind prog w)) a xs∧KVR n ρ h es (xs.map λx=>(x.1,x.2.2))
noncomputable def Mov(h:Heap)(a:Addr):Prop:=∃o,h.get? a=some o∧((∀vs,o.data≠ .fields vs)∨(o.cls≠ .none∧o.cls≠ .type "code"))∧(o.cls≠ .type "tuple"∨∀xs n,o.data≠ .seq xs n)
theorem OAt.ex{n:Nat}{ρ:Nat→Addr}{h:Heap}{a:Addr}{o:AO}(x:OAt prog w n ρ h a o):Mov h a:=by
 cases o with
 |list xs=>refine E22 x λits m e _=>?_;clear x;exact I13 _ e (.inl (by simp)) (.inl (by simp))
 |inst C d=>refine E02 x λe _=>?_;clear x;exact I13 _ e (.inl (by simp)) (.inl (by simp))
 |ns es=>refine E22 x λits m e _=>?_;clear x;exact I13 _ e (.inl (by simp)) (.inl (by simp))
 |sd es=>refine E02 x λ_ y9429=>?_;clear x;refine E12 y9429 λkvs y9430 _=>?_;clear y9429;refine E34 y9430 λo es ep e _ hd _=>?_;clear y9430;exact I13 _ e (.inl (by simp[hd])) (.inr (by simp[hd]))
 |idt es=>refine E02 x λ_ y9436=>?_;clear x;refine E12 y9436 λkvs y9437 _=>?_;clear y9436;refine E34 y9437 λo es ep e _ hd _=>?_;clear y9437;exact I13 _ e (.inl (by simp[hd])) (.inr (by simp[hd]))
 |td es=>refine E02 x λ_ y9443=>?_;clear x;refine E12 y9443 λkvs y9444 _=>?_;clear y9443;refine E34 y9444 λo es ep e _ hd _=>?_;clear y9444;exact I13 _ e (.inl (by simp[hd])) (.inr (by simp[hd]))
theorem Mov.at{h:Heap}{a:Addr}(x:Mov h a):∃o,h.get? a=some o:=let⟨o,e,_⟩:=x;⟨o,e⟩
theorem Mov.tup{h:Heap}{a:Addr}(x:Mov h a)(items:Array Value):¬h.IsTuple a items:=by
 intro y81;refine E13 y81 λo' e' hc y9464=>?_;clear y81;refine E11 y9464 λn hd=>?_;clear y9464
 refine E13 x λo e _ q=>?_;clear x
 obtain rfl:=oin e e'
 rcases q with q|q
 ·exact q hc
 ·exact q _ _ hd
theorem OAt.tr{n n':Nat}{ρ ρ':Nat→Addr}{h h':Heap}{a:Addr}{o:AO}(x:OAt prog w n ρ h a o)(T:Tr n ρ h n' ρ' h')(e:h'.get? a=h.get? a):OAt prog w n' ρ' h' a o:=by
 refine bc λhno=>?_;cases o with
 |list xs=>refine E22 x λits m q r=>?_;clear x;refine hno ?_;exact I22 its m (e.trans q) (r.tr T)
 |inst C d=>refine E02 x λq r=>?_;clear x;refine hno ?_;exact⟨by rw[e,q,T.ext _ r],Nat.lt_of_lt_of_le r T.le⟩
 |ns es=>refine E22 x λits m q r=>?_;clear x;refine hno ?_;exact I22 its m (e.trans q) (r.tr T)
 |sd es=>refine E02 x λy y9541=>?_;clear x;refine E12 y9541 λkvs y9542 v=>?_;clear y9541;refine E32 y9542 λo es ep q r=>?_;clear y9542;refine hno ?_;exact⟨y,kvs,⟨o,es,ep,e.trans q,r⟩,v.tr T⟩
 |idt es=>refine E02 x λy y9548=>?_;clear x;refine E12 y9548 λkvs y9549 v=>?_;clear y9548;refine E32 y9549 λo es ep q r=>?_;clear y9549;refine hno ?_;exact⟨y,kvs,⟨o,es,ep,e.trans q,r⟩,v.tr T⟩
 |td es=>
  refine E02 x λy y9562=>?_;clear x;refine E12 y9562 λxs y9563 v=>?_;clear y9562;refine E36 y9563 λo es ep q r1 r2 r3 r4 r5=>?_;clear y9563
  refine hno ?_;refine⟨y,xs,⟨o,es,ep,e.trans q,r1,r2,r3,λz hz=>?_,r5⟩,v.tr T⟩
  refine bc λhno=>?_;refine E34 (r4 z hz) λob its m ho hc hd hi=>?_
  refine E13 (T.tup _ its ⟨ob,ho,hc,m,hd⟩) λob' ho' hc' y9583=>?_;refine E11 y9583 λm' hd'=>?_;clear y9583
  refine hno ?_;exact I34 ob' its m' ho' hc' hd' hi
structure St where
 H:List (Nat×AO)
 F:List (Nat×AO)
 n:Nat
noncomputable abbrev Loc:=List (Nat×V)
noncomputable abbrev M(α:Type):=StateT St Option α
structure Cfg.Ok (c:Cfg prog w):Prop where
 keys:∀b o,c.KS.lookup b=some o→c.H0.get? b=some o∧¬c.TB b
 stat:(∃o,c.H0.get? cStatics=some o)∧¬c.TB cStatics
 tb:∀b,c.TB b→∃o,c.H0.get? b=some o
 sys:∃o,c.H0.get? sysModules=some o
 g:c.H0.Ns mainGlobals c.mg∧¬c.TB mainGlobals
 b:c.H0.Ns builtinsNs c.mb∧¬c.TB builtinsNs
 bn:∀x:Str,x≠"__name__"→c.mb x=bootBuiltins x
 tab:∀h h':Heap,c.Tab h→(∀b o vs,h.get? b=some o→o.data=.fields vs→(o.cls=.none∨o.cls=.type "code")→h'.get? b=some o)→c.Tab h'
 scr:∀p,c.SC=some p→∀h:Heap,(∀b o,c.H0.get? b=some o→¬c.TB b→h.get? b=some o)→∃its:Array Value,h.IsList p.1 its∧its.size≤1048576∧PyProof.Rows.IntsAre its.toList p.2
noncomputable def Has{α:Type}(k:Nat)(l:List (Nat×α)):Prop:=∃o,lk k l=some o
structure RelH (c:Cfg prog w) (ρ:Nat→Addr) (st:St) (h:Heap):Prop where
 ks:c.KS.In h
 nol:h.NoLimit
 old:OldK c.H0 h
 still:∀b o,c.H0.get? b=some o→¬c.TB b→h.get? b=some o
 tab:c.Tab h
 obj:∀k o,lk k st.H=some o→OAt prog w st.n ρ h (ρ k) o
 fro:∀k o,lk k st.F=some o→OAt prog w st.n ρ h (ρ k) o
 inj:∀k k',k≠k'→Has k st.H→Has k' st.H∨Has k' st.F→ρ k≠ρ k'
 dis:∀k,Has k st.H→lk k st.F=none
 low:∀k,Has k st.H→c.H0.get? (ρ k)=none
 lt:∀k,Has k st.H∨Has k st.F→k<st.n
 ntbF:∀k,Has k st.F→¬c.TB (ρ k)
 rd:(∃e,st.F=e++c.RD∧∀p∈e,c.B≤p.1)∧(∀k,Has k st.H→c.B≤k)∧c.B≤st.n
structure Nx (c:Cfg prog w) (fp:Addr→Prop) (ρ:Nat→Addr) (st:St) (h:Heap) (ρ':Nat→Addr) (st':St) (h':Heap):Prop where
 tr:Tr st.n ρ h st'.n ρ' h'
 un:∀b o,h.get? b=some o→(∀k,Has k st.H→ρ k≠b)→¬fp b→¬c.TB b→h'.get? b=some o
 new:∀k,Has k st'.H→Has k st.H∨h.get? (ρ' k)=none
 newF:∀k,Has k st'.F→Has k st.H∨Has k st.F∨h.get? (ρ' k)=none
 th:∀b o,h.get? b=some o→∃o',h'.get? b=some o'
section
variable{c:Cfg prog w}{fp fp':Addr→Prop}{ρ ρ' ρ'':Nat→Addr}{st st' st'':St}{h h' h'':Heap}
theorem Nx.refl:Nx c fp ρ st h ρ st h:=⟨.refl,λ_ _ e _ _ _=>e,λ_ e=>.inl e,λ_ e=>.inr (.inl e),λ_ o e=>⟨o,e⟩⟩
theorem Nx.off(a:Nx c fp ρ st h ρ' st' h')(R:RelH c ρ st h){b:Addr}{o:Obj}(e:h.get? b=some o)(hm:∀k,Has k st.H→ρ k≠b):∀k,Has k st'.H→ρ' k≠b:=by
 intro k hk
 rcases a.new k hk with q|q
 ·rw[a.tr.ext k (R.lt k (.inl q))];exact hm k q
 ·intro z;rw[z,e]at q;exact nso q
theorem Nx.trans(R:RelH c ρ st h)(R':RelH c ρ' st' h')(a:Nx c fp ρ st h ρ' st' h')(b:Nx c fp' ρ' st' h' ρ'' st'' h'')(hf:∀b,fp' b→fp b∨h.get? b=none):
 Nx c fp ρ st h ρ'' st'' h'':=by
 refine⟨a.tr.trans b.tr,λx o e hm hn ht=>b.un x o (a.un x o e hm hn ht) (a.off R e hm) (λq=>?_) ht,λk hk=>?_,λk hk=>?_,λx o e=>let⟨o',e'⟩:=a.th x o e;b.th x o' e'⟩
 ·rcases hf x q with z|z
  ·exact hn z
  ·rw[e]at z;exact nso z
 ·rcases b.new k hk with q|q
  ·rcases a.new k q with z|z
   ·exact .inl z
   ·refine .inr ?_
    rw[b.tr.ext k (R'.lt k (.inl q))];exact z
  ·refine .inr ?_
   cases z:h.get? (ρ'' k) with
   |none=>rfl
   |some o=>refine E11 (a.th _ _ z) λo' e'=>?_;exact nn q e'
 ·rcases b.newF k hk with q|q|q
  ·rcases a.new k q with z|z
   ·exact .inl z
   ·refine .inr (.inr ?_)
    rw[b.tr.ext k (R'.lt k (.inl q))];exact z
  ·rcases a.newF k q with z|z|z
   ·exact .inl z
   ·exact .inr (.inl z)
   ·refine .inr (.inr ?_)
    rw[b.tr.ext k (R'.lt k (.inr q))];exact z
  ·refine .inr (.inr ?_)
   cases z:h.get? (ρ'' k) with
   |none=>rfl
   |some o=>refine E11 (a.th _ _ z) λo' e'=>?_;exact nn q e'
theorem Nx.offF(a:Nx c fp ρ st h ρ' st' h')(R:RelH c ρ st h){b:Addr}{o:Obj}(e:h.get? b=some o)(hm:∀k,Has k st.H∨Has k st.F→ρ k≠b):∀k,Has k st'.H∨Has k st'.F→ρ' k≠b:=by
 intro k hk
 have:Has k st.H∨Has k st.F∨h.get? (ρ' k)=none:=by
  rcases hk with hk|hk
  ·exact(a.new k hk).imp id .inr
  ·exact a.newF k hk
 rcases this with q|q|q
 ·rw[a.tr.ext k (R.lt k (.inl q))];exact hm k (.inl q)
 ·rw[a.tr.ext k (R.lt k (.inr q))];exact hm k (.inr q)
 ·intro z;rw[z,e]at q;exact nso q
theorem Nx.wide(a:Nx c fp ρ st h ρ' st' h')(hf:∀b,fp b→fp' b):Nx c fp' ρ st h ρ' st' h':=⟨a.tr,λb o e hm hn ht=>a.un b o e hm (λq=>hn (hf b q)) ht,a.new,a.newF,a.th⟩
theorem RelH.keep(C:c.Ok)(R:RelH c ρ st h)(k:∀b o,h.get? b=some o→h'.get? b=some o):RelH c ρ st h':=by
 have T:Tr st.n ρ h st.n ρ h':=⟨Nat.le_refl _,λ_ _=>rfl,λa items x=>let⟨o,e,r⟩:=x;⟨o,k _ _ e,r⟩⟩
 refine⟨R.ks.keeps k,R.nol.keeps k,R.old.step_keeps k,λb o e nt=>k b o (R.still b o e nt),C.tab _ _ R.tab λb o _ e _ _=>k b o e,λi o e=>?_,λi o e=>?_,R.inj,R.dis,R.low,R.lt,R.ntbF,R.rd⟩
 ·have x:=R.obj i o e;obtain⟨ob,q⟩:=x.ex.at;exact x.tr T ((k _ _ q).trans q.symm)
 ·have x:=R.fro i o e;obtain⟨ob,q⟩:=x.ex.at;exact x.tr T ((k _ _ q).trans q.symm)
theorem Nx.keep(k:∀b o,h.get? b=some o→h'.get? b=some o):Nx c fp ρ st h ρ st h':=
 ⟨⟨Nat.le_refl _,λ_ _=>rfl,λa items x=>let⟨o,e,r⟩:=x;⟨o,k _ _ e,r⟩⟩,λb o e _ _ _=>k b o e,λ_ e=>.inl e,λ_ e=>.inr (.inl e),λb o e=>⟨o,k b o e⟩⟩
theorem old_step{H0:Heap}(K:OldK H0 h){a:Addr}(ha:H0.get? a=none)(hs:Heap.SameBut a h h'):OldK H0 h':=by
 have ne:∀b o,H0.get? b=some o→b≠a:=λb o e z=>by rw[z]at e;exact nn ha e
 refine⟨λb o e=>?_,λb o e=>let⟨o',ho'⟩:=K.there b o e;⟨o',(hs.2 b (ne b o e)).trans ho'⟩⟩
 refine bc λhno=>?_;rcases K.old b o e with x|⟨t,hc,vs,more,hv,x⟩|⟨rfl,hc,⟨o',es,n,ho',r⟩,z⟩
 ·refine hno ?_;exact .inl ((hs.2 b (ne b o e)).trans x)
 ·refine hno ?_;exact .inr (.inl ⟨t,hc,vs,more,hv,(hs.2 b (ne b o e)).trans x⟩)
 ·refine hno ?_;exact .inr (.inr ⟨rfl,hc,⟨o',es,n,(hs.2 _ (ne _ o e)).trans ho',r⟩,λkey=>by rw[OldK.staticOf_congr (hs.2 _ (ne _ o e)) key];exact z key⟩)
theorem RelH.fresh(R:RelH c ρ st h){a:Addr}(e:h.get? a=none):c.H0.get? a=none:=by
 cases q:c.H0.get? a with
 |none=>rfl
 |some o=>refine E11 (R.old.there a o q) λo' e'=>?_;exact nn e e'
theorem RelH.stat(C:c.Ok)(R:RelH c ρ st h){a:Addr}(hs:Heap.SameBut a h h')(ha:c.H0.get? a=none)(ho:Mov h a):
 c.KS.In h'∧h'.NoLimit∧(OldK c.H0 h'∧∀b o,c.H0.get? b=some o→¬c.TB b→h'.get? b=some o)∧c.Tab h'∧∀n,Tr n ρ h n ρ h':=by
 have ne:∀b o,c.H0.get? b=some o→b≠a:=λb o e z=>by rw[z]at e;exact nn ha e
 refine I05 (λb o' e=>(hs.2 b (ne b _ (C.keys b o' e).1)).trans (R.ks b o' e)) (R.nol.sameBut hs (let⟨o,e⟩:=C.stat.1;ne _ _ e)) ⟨old_step R.old ha hs,λb o e nt=>(hs.2 b (ne b o e)).trans (R.still b o e nt)⟩ (C.tab _ _ R.tab λb o' vs e q q'=>(hs.2 b λz=>?_).trans e) (λn=>⟨Nat.le_refl _,λ_ _=>rfl,λx items q=>?_⟩)
 ·refine E13 ho λo eo c1 _=>?_;clear ho
  rw[z]at e;obtain rfl:=oin eo e
  rcases c1 with c1|⟨c1,c2⟩
  ·exact c1 _ q
  ·rcases q' with q'|q'
   ·exact c1 q'
   ·exact c2 q'
 ·have hx:x≠a:=λz=>ho.tup items (z▸q)
  refine E12 q λo' e r=>?_;clear q
  exact I12 o' ((hs.2 x hx).trans e) r
theorem RelH.aside(C:c.Ok)(R:RelH c ρ st h){a:Addr}(hs:Heap.SameBut a h h')(ha:c.H0.get? a=none)(ho:Mov h a)(hm:∀k,Has k st.H∨Has k st.F→ρ k≠a):RelH c ρ st h':=by
 refine E05 (R.stat C hs ha ho) λs1 s2 s3 s4 T=>?_
 exact⟨s1,s2,s3.1,s3.2,s4,λi o' e=>(R.obj i o' e).tr (T _) (hs.2 _ (hm i (.inl ⟨_,e⟩))),λi o' e=>(R.fro i o' e).tr (T _) (hs.2 _ (hm i (.inr ⟨_,e⟩))),R.inj,R.dis,R.low,R.lt,R.ntbF,R.rd⟩
theorem Nx.aside(C:c.Ok)(R:RelH c ρ st h){a:Addr}(hs:Heap.SameBut a h h')(ha:c.H0.get? a=none)(ho:Mov h a)(ho':∃o',h'.get? a=some o'):Nx c (λb=>b=a) ρ st h ρ st h':=by
 refine E05 (R.stat C hs ha ho) λs1 s2 s3 s4 T=>?_
 refine⟨T _,λb o' e _ hn _=>(hs.2 b hn).trans e,λ_ e=>.inl e,λ_ e=>.inr (.inl e),λb o' e=>?_⟩
 by_cases z:b=a
 ·rw[z];exact ho'
 ·exact I11 o' ((hs.2 b z).trans e)
theorem RelH.but(C:c.Ok)(R:RelH c ρ st h){fp:Addr→Prop}(hs:∀b o,¬fp b→h.get? b=some o→h'.get? b=some o)(hf:∀b,fp b→c.H0.get? b=none∧(∀o,h.get? b=some o→Mov h b))(hm:∀k,Has k st.H∨Has k st.F→¬fp (ρ k)):
 RelH c ρ st h'∧∀n,Tr n ρ h n ρ h':=by
 have nf:∀b o,c.H0.get? b=some o→¬fp b:=λb o e z=>by exact nn ((hf b z).1) e
 have T:∀n,Tr n ρ h n ρ h':=λn=>⟨Nat.le_refl _,λ_ _=>rfl,λx items q=>by
  have hx:¬fp x:=λz=>by
   refine E12 (id q) λo e _=>?_
   exact((hf x z).2 o e).tup items q
  refine E12 q λo e r=>?_;clear q
  exact⟨o,hs x o hx e,r⟩⟩
 have eq:∀b o,c.H0.get? b=some o→h'.get? b=h.get? b:=λb o e=>by
  refine E11 (R.old.there b o e) λo' e'=>?_
  rw[e',hs b o' (nf b o e) e']
 have hst:h'.get? cStatics=h.get? cStatics:=let⟨o,e⟩:=C.stat.1;eq _ o e
 refine⟨⟨λb o' e=>hs b o' (nf b _ (C.keys b o' e).1) (R.ks b o' e),?_,⟨λb o e=>?_,λb o e=>?_⟩,λb o e nt=>hs b o (nf b o e) (R.still b o e nt),C.tab _ _ R.tab λb o' vs e q q'=>hs b o' (λz=>?_) e,λi o' e=>?_,λi o' e=>?_,R.inj,R.dis,R.low,R.lt,R.ntbF,R.rd⟩,T⟩
 ·refine E12 R.nol λmc y9682 q=>?_;refine E32 y9682 λo es ep e r=>?_;clear y9682
  exact I12 mc ⟨o,es,ep,hst.trans e,r⟩ q
 ·rcases R.old.old b o e with x|⟨t,hc,vs,more,hv,x⟩|⟨rfl,hc,⟨o',es,n,ho',r⟩,z⟩
  ·exact .inl ((eq b o e).trans x)
  ·exact .inr (.inl ⟨t,hc,vs,more,hv,(eq b o e).trans x⟩)
  ·exact .inr (.inr ⟨rfl,hc,⟨o',es,n,hst.trans ho',r⟩,λkey=>by rw[OldK.staticOf_congr hst key];exact z key⟩)
 ·refine E11 (R.old.there b o e) λo' e'=>?_
  exact I11 o' ((eq b o e).trans e')
 ·refine E13 ((hf b z).2 _ e) λo eo c1 _=>?_
  obtain rfl:=oin eo e
  rcases c1 with c1|⟨c1,c2⟩
  ·exact c1 _ q
  ·rcases q' with q'|q'
   ·exact c1 q'
   ·exact c2 q'
 ·have x:=R.obj i o' e;refine E11 x.ex.at λob q=>?_;exact x.tr (T _) ((hs _ _ (hm i (.inl ⟨_,e⟩)) q).trans q.symm)
 ·have x:=R.fro i o' e;refine E11 x.ex.at λob q=>?_;exact x.tr (T _) ((hs _ _ (hm i (.inr ⟨_,e⟩)) q).trans q.symm)
theorem Nx.but(R:RelH c ρ st h){fp:Addr→Prop}(hs:∀b o,¬fp b→h.get? b=some o→h'.get? b=some o)(T:Tr st.n ρ h st.n ρ h')(ht:∀b o,h.get? b=some o→∃o',h'.get? b=some o'):Nx c fp ρ st h ρ st h':=
 ⟨T,λb o e _ hn _=>hs b o hn e,λ_ e=>.inl e,λ_ e=>.inr (.inl e),ht⟩
theorem RelH.upd(C:c.Ok)(R:RelH c ρ st h){k:Nat}{o o':AO}(hk:lk k st.H=some o)(hs:Heap.SameBut (ρ k) h h')(hn:OAt prog w st.n ρ h' (ρ k) o'):RelH c ρ {st with H:=up k o' st.H} h':=by
 refine E05 (R.stat C hs (R.low k ⟨_,hk⟩) (R.obj k o hk).ex) λs1 s2 s3 s4 T=>?_
 have has:∀i,Has i (up k o' st.H)→Has i st.H:=by
  intro i y81;refine E11 y81 λz e=>?_;clear y81
  rw[lk_up]at e
  by_cases q:i=k
  ·exact I11 o (q▸hk)
  ·rw[if_neg q]at e;exact I11 z e
 refine⟨s1,s2,s3.1,s3.2,s4,λi z e=>?_,λi z e=>?_,λi j ne hi hj=>R.inj i j ne (has i hi) (hj.imp (has j) id),λi hi=>R.dis i (has i hi),λi hi=>R.low i (has i hi),λi hi=>R.lt i (hi.imp (has i) id),R.ntbF,R.rd.1,λi hi=>R.rd.2.1 i (has i hi),R.rd.2.2⟩
 ·rw[lk_up]at e
  by_cases q:i=k
  ·obtain rfl:=oin (if_pos q) e;rw[q];exact hn
  ·rw[if_neg q]at e
   exact(R.obj i z e).tr (T _) (hs.2 _ (R.inj i k q ⟨_,e⟩ (.inl ⟨_,hk⟩)))
 ·by_cases q:k=i
  ·have:=R.dis k ⟨_,hk⟩;rw[q,e]at this;exact nso this
  ·exact(R.fro i z e).tr (T _) (hs.2 _ (R.inj k i q ⟨_,hk⟩ (.inr ⟨_,e⟩)).symm)
theorem Nx.upd(C:c.Ok)(R:RelH c ρ st h){k:Nat}{o o':AO}(hk:lk k st.H=some o)(hs:Heap.SameBut (ρ k) h h')(hn:OAt prog w st.n ρ h' (ρ k) o'):Nx c fp ρ st h ρ {st with H:=up k o' st.H} h':=by
 refine E05 (R.stat C hs (R.low k ⟨_,hk⟩) (R.obj k o hk).ex) λs1 s2 s3 s4 T=>?_
 refine⟨T _,λb z q hm _ _=>(hs.2 b (hm k ⟨_,hk⟩).symm).trans q,λi ⟨z,q⟩=>.inl ?_,λ_ e=>.inr (.inl e),λb z q=>?_⟩
 ·dsimp only at q
  rw[lk_up]at q
  by_cases y:i=k
  ·exact I11 o (y▸hk)
  ·rw[if_neg y]at q;exact I11 z q
 ·by_cases y:b=ρ k
  ·refine E11 hn.ex.at λob' e'=>?_;exact I11 ob' (y▸e')
  ·exact I11 z ((hs.2 b y).trans q)
noncomputable def put(ρ:Nat→Addr)(n:Nat)(a:Addr):Nat→Addr:=λk=>if k=n then a else ρ k
noncomputable def St.add(st:St)(o:AO):St:=⟨(st.n,o)::st.H,st.F,st.n+1⟩
theorem lk_add(st:St)(o:AO)(k:Nat):lk k (st.add o).H=if k=st.n then some o else lk k st.H:=by
 show(match Nat.beq st.n k with|true=>some o|false=>lk k st.H)= _
 rw[beq_eq]
 by_cases h:k=st.n
 ·subst h;simp
 ·have:¬st.n=k:=λe=>h e.symm
  simp[h,this]
theorem tr_put{n:Nat}{a:Addr}(k:∀b o,h.get? b=some o→h'.get? b=some o):Tr n ρ h (n+1) (put ρ n a) h':=
 ⟨Nat.le_succ _,λi hi=>if_neg (Nat.ne_of_lt hi),λ_ _ x=>let⟨o,e,r⟩:=x;⟨o,k _ _ e,r⟩⟩
theorem RelH.alloc(C:c.Ok)(R:RelH c ρ st h)(k:∀b o,h.get? b=some o→h'.get? b=some o){a:Addr}{o:AO}(ha:h.get? a=none)(hn:OAt prog w st.n ρ h' a o):RelH c (put ρ st.n a) (st.add o) h':=by
 have T:=tr_put (ρ:=ρ) (n:=st.n) (a:=a) k
 have T':Tr st.n ρ h' (st.n+1) (put ρ st.n a) h':=tr_put λ_ _ e=>e
 have K:=R.keep C k
 have eq:∀i,i<st.n→put ρ st.n a i=ρ i:=λi hi=>if_neg (Nat.ne_of_lt hi)
 have es:put ρ st.n a st.n=a:=if_pos rfl
 have has:∀i,Has i (st.add o).H→i=st.n∨(i≠st.n∧Has i st.H):=by
  intro i y81;refine E11 y81 λz e=>?_;clear y81
  rw[lk_add]at e
  by_cases q:i=st.n
  ·exact .inl q
  ·rw[if_neg q]at e;exact .inr ⟨q,z,e⟩
 have ne:∀i,Has i st.H∨Has i st.F→ρ i≠a:=by
  intro i hi z
  have:∃ob,h.get? (ρ i)=some ob:=by
   rcases hi with⟨q,e⟩|⟨q,e⟩
   ·refine E11 ((R.obj i q e).ex.at) λob e'=>?_;exact I11 ob e'
   ·refine E11 ((R.fro i q e).ex.at) λob e'=>?_;exact I11 ob e'
  refine E11 this λob e'=>?_;clear this
  rw[z]at e';exact nn ha e'
 refine⟨K.ks,K.nol,K.old,K.still,K.tab,λi z e=>?_,λi z e=>?_,λi j hij hi hj=>?_,λi hi=>?_,λi hi=>?_,λi hi=>?_,λi hi=>by rw[eq i (R.lt i (.inr hi))];exact R.ntbF i hi,R.rd.1,λi hi=>(has i hi).elim (λe=>e▸R.rd.2.2) (λq=>R.rd.2.1 i q.2),Nat.le_succ_of_le R.rd.2.2⟩
 ·rw[lk_add]at e
  by_cases q:i=st.n
  ·obtain rfl:=oin (if_pos q) e
   rw[q,es]
   exact hn.tr T' rfl
  ·rw[if_neg q]at e
   rw[eq i (R.lt i (.inl ⟨_,e⟩))]
   exact(K.obj i z e).tr T' rfl
 ·rw[eq i (R.lt i (.inr ⟨_,e⟩))]
  exact(K.fro i z e).tr T' rfl
 ·have old:∀i,Has i st.H∨Has i st.F→put ρ st.n a i=ρ i:=λi hi=>eq i (R.lt i hi)
  rcases has i hi with rfl|⟨q,hi⟩
  ·rw[es]
   rcases hj with hj|hj
   ·rcases has j hj with rfl|⟨q,hj⟩
    ·exact absurd rfl hij
    ·rw[old j (.inl hj)];exact(ne j (.inl hj)).symm
   ·rw[old j (.inr hj)];exact(ne j (.inr hj)).symm
  ·rw[old i (.inl hi)]
   rcases hj with hj|hj
   ·rcases has j hj with rfl|⟨q,hj⟩
    ·rw[es];exact ne i (.inl hi)
    ·rw[old j (.inl hj)];exact R.inj i j hij hi (.inl hj)
   ·rw[old j (.inr hj)];exact R.inj i j hij hi (.inr hj)
 ·rcases has i hi with rfl|⟨q,hi⟩
  ·cases e:lk st.n st.F with
   |none=>exact e
   |some z=>exact absurd (R.lt _ (.inr ⟨_,e⟩)) (Nat.lt_irrefl _)
  ·exact R.dis i hi
 ·rcases has i hi with rfl|⟨q,hi⟩
  ·rw[es];exact R.fresh ha
  ·rw[eq i (R.lt i (.inl hi))];exact R.low i hi
 ·rcases hi with hi|hi
  ·rcases has i hi with rfl|⟨q,hi⟩
   ·exact Nat.lt_succ_self _
   ·exact Nat.lt_succ_of_lt (R.lt i (.inl hi))
  ·exact Nat.lt_succ_of_lt (R.lt i (.inr hi))
theorem Nx.alloc(R:RelH c ρ st h)(k:∀b o,h.get? b=some o→h'.get? b=some o){a:Addr}{o:AO}(ha:h.get? a=none):Nx c fp ρ st h (put ρ st.n a) (st.add o) h':=by
 refine⟨tr_put k,λb z e _ _ _=>k b z e,λi ⟨z,e⟩=>?_,λ_ e=>.inr (.inl e),λb z e=>⟨z,k b z e⟩⟩
 rw[lk_add]at e
 by_cases q:i=st.n
 ·exact .inr (by rw[q];show h.get? (if st.n=st.n then a else _)=none;rw[if_pos rfl];exact ha)
 ·rw[if_neg q]at e;exact .inl ⟨z,e⟩
theorem RelH.adopt(R:RelH c ρ st h){a:Addr}{o:AO}(hn:OAt prog w st.n ρ h a o)(hH:c.H0.get? a=none)(hne:∀i,Has i st.H∨Has i st.F→ρ i≠a):RelH c (put ρ st.n a) (st.add o) h:=by
 have T':Tr st.n ρ h (st.n+1) (put ρ st.n a) h:=tr_put λ_ _ e=>e
 have eq:∀i,i<st.n→put ρ st.n a i=ρ i:=λi hi=>if_neg (Nat.ne_of_lt hi)
 have es:put ρ st.n a st.n=a:=if_pos rfl
 have has:∀i,Has i (st.add o).H→i=st.n∨(i≠st.n∧Has i st.H):=by
  intro i y81;refine E11 y81 λz e=>?_;clear y81
  rw[lk_add]at e
  by_cases q:i=st.n
  ·exact .inl q
  ·rw[if_neg q]at e;exact .inr ⟨q,z,e⟩
 have old:∀i,Has i st.H∨Has i st.F→put ρ st.n a i=ρ i:=λi hi=>eq i (R.lt i hi)
 refine⟨R.ks,R.nol,R.old,R.still,R.tab,λi z e=>?_,λi z e=>?_,λi j hij hi hj=>?_,λi hi=>?_,λi hi=>?_,λi hi=>?_,λi hi=>by rw[eq i (R.lt i (.inr hi))];exact R.ntbF i hi,R.rd.1,λi hi=>(has i hi).elim (λe=>e▸R.rd.2.2) (λq=>R.rd.2.1 i q.2),Nat.le_succ_of_le R.rd.2.2⟩
 ·rw[lk_add]at e
  by_cases q:i=st.n
  ·obtain rfl:=oin (if_pos q) e
   rw[q,es]
   exact hn.tr T' rfl
  ·rw[if_neg q]at e
   rw[eq i (R.lt i (.inl ⟨_,e⟩))]
   exact(R.obj i z e).tr T' rfl
 ·rw[eq i (R.lt i (.inr ⟨_,e⟩))]
  exact(R.fro i z e).tr T' rfl
 ·rcases has i hi with rfl|⟨q,hi⟩
  ·rw[es]
   rcases hj with hj|hj
   ·rcases has j hj with rfl|⟨q,hj⟩
    ·exact absurd rfl hij
    ·rw[old j (.inl hj)];exact(hne j (.inl hj)).symm
   ·rw[old j (.inr hj)];exact(hne j (.inr hj)).symm
  ·rw[old i (.inl hi)]
   rcases hj with hj|hj
   ·rcases has j hj with rfl|⟨q,hj⟩
    ·rw[es];exact hne i (.inl hi)
    ·rw[old j (.inl hj)];exact R.inj i j hij hi (.inl hj)
   ·rw[old j (.inr hj)];exact R.inj i j hij hi (.inr hj)
 ·rcases has i hi with rfl|⟨q,hi⟩
  ·cases e:lk st.n st.F with
   |none=>exact e
   |some z=>exact absurd (R.lt _ (.inr ⟨_,e⟩)) (Nat.lt_irrefl _)
  ·exact R.dis i hi
 ·rcases has i hi with rfl|⟨q,hi⟩
  ·rw[es];exact hH
  ·rw[eq i (R.lt i (.inl hi))];exact R.low i hi
 ·rcases hi with hi|hi
  ·rcases has i hi with rfl|⟨q,hi⟩
   ·exact Nat.lt_succ_self _
   ·exact Nat.lt_succ_of_lt (R.lt i (.inl hi))
  ·exact Nat.lt_succ_of_lt (R.lt i (.inr hi))
theorem Nx.adopt(R:RelH c ρ' st' h')(N:Nx c fp ρ st h ρ' st' h'){a:Addr}{o:AO}(ha:h.get? a=none):Nx c fp ρ st h (put ρ' st'.n a) (st'.add o) h':=by
 have T':Tr st'.n ρ' h' (st'.n+1) (put ρ' st'.n a) h':=tr_put λ_ _ e=>e
 have eq:∀i,i<st'.n→put ρ' st'.n a i=ρ' i:=λi hi=>if_neg (Nat.ne_of_lt hi)
 refine⟨N.tr.trans T',N.un,λi ⟨z,e⟩=>?_,λi hi=>?_,N.th⟩
 ·rw[lk_add]at e
  by_cases q:i=st'.n
  ·exact .inr (by rw[q];show h.get? (if st'.n=st'.n then a else _)=none;rw[if_pos rfl];exact ha)
  ·rw[if_neg q]at e
   rw[eq i (R.lt i (.inl ⟨z,e⟩))]
   exact N.new i ⟨z,e⟩
 ·rw[eq i (R.lt i (.inr hi))]
  exact N.newF i hi
noncomputable def del{α:Type}(k:Nat):List (Nat×α)→List (Nat×α)
 | []=>[]
 |p::r=>match Nat.beq p.1 k with
  |true=>del k r
  |false=>p::del k r
theorem lk_del{α:Type}(k k':Nat):∀l:List (Nat×α),lk k' (del k l)=if k'=k then none else lk k' l
 | []=>by simp[del,lk]
 |p::r=>by
  have ih:=lk_del k k' r
  simp only[del,beq_eq]
  by_cases h:p.1=k
  ·simp only[h,decide_true,ih,lk,beq_eq]
   by_cases q:k'=k
   ·simp[q]
   ·have:¬k=k':=λe=>q e.symm
    simp[q,this]
  ·simp only[decide_eq_false h,lk,beq_eq,ih]
   by_cases q:k'=k
   ·subst q;simp[h]
   ·simp[q]
noncomputable def St.freeze(st:St)(k:Nat)(o:AO):St:=⟨del k st.H,(k,o)::st.F,st.n⟩
theorem lk_freeze(st:St)(k:Nat)(o:AO)(i:Nat):lk i (st.freeze k o).F=if i=k then some o else lk i st.F:=by
 show(match Nat.beq k i with|true=>some o|false=>lk i st.F)= _
 rw[beq_eq]
 by_cases q:i=k
 ·simp[q]
 ·have:¬k=i:=λe=>q e.symm
  simp[q,this]
theorem RelH.freeze(C:c.Ok)(R:RelH c ρ st h){k:Nat}{o:AO}(hk:lk k st.H=some o):RelH c ρ (st.freeze k o) h∧Nx c fp ρ st h ρ (st.freeze k o) h:=by
 have hasH:∀i,Has i (st.freeze k o).H→i≠k∧Has i st.H:=by
  intro i y81;refine E11 y81 λz e=>?_;clear y81
  have e':lk i (del k st.H)=some z:=e
  rw[lk_del]at e'
  by_cases q:i=k
  ·exact nn (if_pos q) e'
  ·rw[if_neg q]at e';exact⟨q,z,e'⟩
 have hasF:∀i,Has i (st.freeze k o).F→i=k∨Has i st.F:=by
  intro i y81;refine E11 y81 λz e=>?_;clear y81
  rw[lk_freeze]at e
  by_cases q:i=k
  ·exact .inl q
  ·rw[if_neg q]at e;exact .inr ⟨z,e⟩
 refine⟨⟨R.ks,R.nol,R.old,R.still,R.tab,λi z e=>?_,λi z e=>?_,λi j ne hi hj=>?_,λi hi=>?_,λi hi=>R.low i (hasH i hi).2,λi hi=>?_,λi hi=>?_,?_,λi hi=>R.rd.2.1 i (hasH i hi).2,R.rd.2.2⟩,.refl,λb z e _ _ _=>e,λi hi=>.inl (hasH i hi).2,λi hi=>?_,λb z e=>⟨z,e⟩⟩
 ·have e':lk i (del k st.H)=some z:=e
  rw[lk_del]at e'
  by_cases q:i=k
  ·exact nn (if_pos q) e'
  ·rw[if_neg q]at e';exact R.obj i z e'
 ·rw[lk_freeze]at e
  by_cases q:i=k
  ·obtain rfl:=oin (if_pos q) e;rw[q];exact R.obj k o hk
  ·rw[if_neg q]at e;exact R.fro i z e
 ·refine E02 (hasH i hi) λni hi1=>?_
  rcases hj with hj|hj
  ·exact R.inj i j ne hi1 (.inl (hasH j hj).2)
  ·rcases hasF j hj with q|hj
   ·exact R.inj i j ne hi1 (.inl (q▸⟨o,hk⟩))
   ·exact R.inj i j ne hi1 (.inr hj)
 ·refine E02 (hasH i hi) λni hi2=>?_
  rw[lk_freeze,if_neg ni]
  exact R.dis i hi2
 ·rcases hi with hi|hi
  ·exact R.lt i (.inl (hasH i hi).2)
  ·rcases hasF i hi with q|hi
   ·exact R.lt i (.inl (q▸⟨o,hk⟩))
   ·exact R.lt i (.inr hi)
 ·rcases hasF i hi with q|hi
  ·intro z
   refine E11 (C.tb _ z) λo' e'=>?_
   exact nn (R.low i (q▸⟨o,hk⟩)) e'
  ·exact R.ntbF i hi
 ·refine E12 R.rd.1 λe he hb=>?_
  refine I12 ((k,o)::e) (by show(k,o)::st.F= _;rw[he];rfl) (λp hp=>?_)
  rcases List.mem_cons.mp hp with rfl|hp
  ·exact R.rd.2.1 k ⟨o,hk⟩
  ·exact hb p hp
 ·rcases hasF i hi with q|hi
  ·exact .inl (q▸⟨o,hk⟩)
  ·exact .inr (.inl hi)
end
end
section
variable{prog:Program}{w:World}
noncomputable def AOk(d:Nat)(A:Around):Prop:=A.handled=none∧A.depth+d<recursionLimit∧A.units+10 * d+200<cLine
theorem AOk.in1{d:Nat}{A:Around}(h:AOk (d+1) A):AOk d A.in1:=⟨h.1,by have:=h.2.1;show A.depth+d<_;lia,by have:=h.2.2;show A.units+1+10 * d+200<_;lia⟩
theorem AOk.deeper{d:Nat}{A:Around}{env:Env}(h:AOk (d+1) A):AOk d (A.deeper env):=⟨h.1,by have:=h.2.1;show A.depth+1+d<_;lia,by have:=h.2.2;show A.units+3+10 * d+200<_;lia⟩
theorem AOk.less{d d':Nat}{A:Around}(h:AOk d A)(hd:d'≤d):AOk d' A:=⟨h.1,by have:=h.2.1;lia,by have:=h.2.2;lia⟩
theorem AOk.units64{d:Nat}{A:Around}(h:AOk d A):A.units+64<cLine:=by have:=h.2.2;lia
noncomputable def EnvOk(env:Env):Prop:=env.scope.kind=.function∧env.globals=mainGlobals∧env.builtins=builtinsNs
noncomputable def VarAt(env:Env)(h:Heap)(x:Str)(v:Value):Prop:=
 (env.kindOf x=some .local∧∃m,h.Ns env.locals m∧m x=some v)∨
 ((env.kindOf x=some .cell∨env.kindOf x=some .free)∧∃a,env.cells.lookup x=some a∧h.IsCell a (some v))
structure LocR (c:Cfg prog w) (env:Env) (nl:List Str) (l:Loc) (ρ:Nat→Addr) (st:St) (h:Heap):Prop where
 nd:nl.Nodup
 var:∀i v,lk i l=some v→∃x v',nl[i]? =some x∧VarAt env h x v'∧VR st.n ρ h v v'
 lns:∃m,h.Ns env.locals m
 cel:∀x a,env.cells.lookup x=some a→∃v,h.IsCell a v
 low:c.H0.get? env.locals=none
 lowc:∀x a,env.cells.lookup x=some a→c.H0.get? a=none
 sep:∀k,Has k st.H∨Has k st.F→ρ k≠env.locals
 sepc:∀k,Has k st.H∨Has k st.F→∀x a,env.cells.lookup x=some a→ρ k≠a
 clc:∀x a,env.cells.lookup x=some a→a≠env.locals
 inj:∀x y a,env.cells.lookup x=some a→env.cells.lookup y=some a→x=y
section
variable{c:Cfg prog w}{env:Env}{nl:List Str}{l:Loc}{ρ ρ':Nat→Addr}{st st':St}{h h':Heap}
noncomputable abbrev NoA:Addr→Prop:=λ_=>False
theorem Ns.of_get{h h':Heap}{a:Addr}{m:Str→Option Value}(x:h.Ns a m)(e:∀o,h.get? a=some o→h'.get? a=some o):h'.Ns a m:=
 let⟨o,es,ep,q,r⟩:=x;⟨o,es,ep,e o q,r⟩
theorem Cell.of_get{h h':Heap}{a:Addr}{v:Option Value}(x:h.IsCell a v)(e:∀o,h.get? a=some o→h'.get? a=some o):h'.IsCell a v:=
 let⟨o,q,r⟩:=x;⟨o,e o q,r⟩
theorem RelH.ntb(C:c.Ok){b:Addr}(hb:c.H0.get? b=none):¬c.TB b:=λq=>by obtain⟨o,e⟩:=C.tb b q;rw[hb]at e;cases e
theorem LocR.keepL(C:c.Ok)(X:LocR c env nl l ρ st h)(N:Nx c NoA ρ st h ρ' st' h'):∀o,h.get? env.locals=some o→h'.get? env.locals=some o:=λo e=>
 N.un _ o e (λk hk=>X.sep k (.inl hk)) (λq=>q) (RelH.ntb C X.low)
theorem LocR.keepC(C:c.Ok)(X:LocR c env nl l ρ st h)(N:Nx c NoA ρ st h ρ' st' h'){x:Str}{a:Addr}(ha:env.cells.lookup x=some a):∀o,h.get? a=some o→h'.get? a=some o:=λo e=>
 N.un _ o e (λk hk=>X.sepc k (.inl hk) x a ha) (λq=>q) (RelH.ntb C (X.lowc x a ha))
theorem LocR.nx(C:c.Ok)(R:RelH c ρ st h)(R':RelH c ρ' st' h')(X:LocR c env nl l ρ st h)(N:Nx c NoA ρ st h ρ' st' h'):LocR c env nl l ρ' st' h':=by
 have hc:∀x a,env.cells.lookup x=some a→∀k,Has k st'.H∨Has k st'.F→ρ' k≠a:=by
  intro x a ha k hk
  refine E22 (X.cel x a ha) λv o e _=>?_
  exact N.offF R e (λi hi=>X.sepc i hi x a ha) k hk
 have hL:∀k,Has k st'.H∨Has k st'.F→ρ' k≠env.locals:=by
  intro k hk
  refine E42 X.lns λm o es ep e _=>?_
  exact N.offF R e (λi hi=>X.sep i hi) k hk
 refine⟨X.nd,λi v e=>?_,?_,λx a ha=>?_,X.low,X.lowc,hL,λk hk x a ha=>hc x a ha k hk,X.clc,X.inj⟩
 ·refine E23 (X.var i v e) λx v' hx hv r=>?_
  refine I23 x v' hx ?_ (r.tr N.tr)
  rcases hv with⟨hk,m,hn,hm⟩|⟨hk,a,ha,hx⟩
  ·exact .inl ⟨hk,m,Ns.of_get hn (X.keepL C N),hm⟩
  ·exact .inr ⟨hk,a,ha,Cell.of_get hx (X.keepC C N ha)⟩
 ·obtain⟨m,hn⟩:=X.lns;exact⟨m,Ns.of_get hn (X.keepL C N)⟩
 ·obtain⟨v,hx⟩:=X.cel x a ha;exact⟨v,Cell.of_get hx (X.keepC C N ha)⟩
end
noncomputable def KE(c:Cfg prog w)(env:Env)(nl:List Str)(l:Loc)(ρ:Nat→Addr)(st:St)(s:Shared)(v:V)(st':St)(Q:Value→Shared→Prop):Prop:=
 ∀ρ' h' tk v',Nx c NoA ρ st s.heap ρ' st' h'→RelH c ρ' st' h'→LocR c env nl l ρ' st' h'→VR st'.n ρ' h' v v'→Q v' {s with heap:=h',toks:=tk}
noncomputable def KT(c:Cfg prog w)(env:Env)(nl:List Str)(l:Loc)(ρ:Nat→Addr)(st:St)(s:Shared)(v:Bool)(st':St)(Q:Bool→Shared→Prop):Prop:=
 ∀ρ' h' tk,Nx c NoA ρ st s.heap ρ' st' h'→RelH c ρ' st' h'→LocR c env nl l ρ' st' h'→Q v {s with heap:=h',toks:=tk}
noncomputable def KO(c:Cfg prog w)(ρ:Nat→Addr)(st:St)(s:Shared)(v:V)(st':St)(Q:Value→Shared→Prop):Prop:=
 ∀ρ' h' tk v',Nx c NoA ρ st s.heap ρ' st' h'→RelH c ρ' st' h'→VR st'.n ρ' h' v v'→Q v' {s with heap:=h',toks:=tk}
noncomputable def SemE(c:Cfg prog w)(ec:Env→Prop)(nl:List Str)(d:Nat)(e:Expr)(f:Loc→M V):Prop:=
 ∀(A:Around) (env:Env) (l:Loc) (ρ:Nat→Addr) (st:St) (v:V) (st':St) (s:Shared) (Q:Value→Shared→Prop) (E:Value→Shared→Prop),
  ec env→AOk d A→RelH c ρ st s.heap→LocR c env nl l ρ st s.heap→f l st=some (v,st')→
  (KE c env nl l ρ st s v st' Q)→
  wpAny (model prog w) A (eval e env) Q E s
noncomputable def SemT(c:Cfg prog w)(ec:Env→Prop)(nl:List Str)(d:Nat)(e:Expr)(f:Loc→M Bool):Prop:=
 ∀(A:Around) (env:Env) (l:Loc) (ρ:Nat→Addr) (st:St) (v:Bool) (st':St) (s:Shared) (Q:Bool→Shared→Prop) (E:Value→Shared→Prop),
  ec env→AOk d A→RelH c ρ st s.heap→LocR c env nl l ρ st s.heap→f l st=some (v,st')→
  (KT c env nl l ρ st s v st' Q)→
  wpAny (model prog w) A (isTrue e env (eval e env)) Q E s
theorem mbind{α β:Type}{f:M α}{g:α→M β}{st:St}{r:β×St}(h:(f >>= g) st=some r):∃a st₁,f st=some (a,st₁)∧g a st₁=some r:=by
 have h':(f st).bind (λp=>g p.1 p.2)=some r:=h
 cases e:f st with
 |none=>rw[e]at h';exact nos h'
 |some p=>rw[e]at h';exact I22 p.1 p.2 rfl h'
theorem mpure{α:Type}{a:α}{st:St}{r:α×St}(h:(pure a:M α) st=some r):r=(a,st):=by
 have h':some (a,st)=some r:=h
 clear h;refine E02 (spi h') λq9701 q9702=>?_;clear h';subst q9701;subst q9702;rfl
noncomputable def fail{α:Type}:M α:=λ_=>none
section
variable{c:Cfg prog w}{ec:Env→Prop}{nl:List Str}{d:Nat}
theorem SemE.cint{i:Int}{k:Nat}{pos:Pos}:SemE c ec nl d (.Constant (.int i) k pos) λ_=>pure (.int i):=by
 intro A env l ρ st v st' s Q E he hA R X hf hQ
 refine E02 (Prod.mk.inj (mpure hf)) λq9757 q9758=>?_;clear he hA hf;subst q9757;subst q9758
 exact wpAny_Constant_int (hQ ρ s.heap _ _ .refl R X (.int _ _))
theorem SemE.cstr{x:Str}{y:List Nat}{k:Nat}{pos:Pos}(hy:x.cps.toList=y):SemE c ec nl d (.Constant (.str x) k pos) λ_=>pure (.str y):=by
 intro A env l ρ st v st' s Q E he hA R X hf hQ
 refine E02 (Prod.mk.inj (mpure hf)) λq9785 q9786=>?_;clear he hA hf;subst q9785;subst q9786
 exact Constant_str (hQ ρ s.heap _ _ .refl R X (.str _ _ hy))
theorem SemE.cnone{k:Nat}{pos:Pos}:SemE c ec nl d (.Constant .none k pos) λ_=>pure .none:=by
 intro A env l ρ st v st' s Q E he hA R X hf hQ
 refine E02 (Prod.mk.inj (mpure hf)) λq9813 q9814=>?_;clear he hA hf;subst q9813;subst q9814
 exact wpAny_Constant_none (hQ ρ s.heap s.toks _ .refl R X .none)
theorem SemE.cbool{b:Bool}{k:Nat}{pos:Pos}:SemE c ec nl d (.Constant (.bool b) k pos) λ_=>pure (.bool b):=by
 intro A env l ρ st v st' s Q E he hA R X hf hQ
 refine E02 (Prod.mk.inj (mpure hf)) λq9841 q9842=>?_;clear he hA hf;subst q9841;subst q9842
 exact wpAny_Constant_bool (hQ ρ s.heap s.toks _ .refl R X (.bool _))
noncomputable def gt(i:Nat)(l:Loc):M V:=match lk i l with
 |some v=>pure v
 |none=>fail
theorem SemE.name{i:Nat}{x:Str}{pos:Pos}(hx:nl[i]? =some x)(hec:∀env,ec env→EnvOk env)(hd:(x==("__debug__":Str))=false:=by decide)(hcd:(x==("__classdict__":Str))=false:=by decide):
 SemE c ec nl d (.Name x pos) (gt i):=by
 intro A env l ρ st v st' s Q E he hA R X hf hQ
 unfold gt at hf
 refine bc λhno=>?_;cases e:lk i l with
 |none=>rw[e]at hf;cases hf
 |some v₀=>
  rw[e]at hf
  cases mpure hf
  obtain⟨y,v',hy,hv,r⟩:=X.var i _ e
  rw[hx]at hy;cases hy
  have q:=hQ ρ s.heap s.toks v' .refl R X r
  refine hno ?_;refine wpAny_Name ?_ hd
  refine bc λhno=>?_;rcases hv with⟨hk,m,hn,hm⟩|⟨hk|hk,a,ha,hc⟩
  ·refine hno ?_;exact wpAny_loadName_local (hec env he).1 hk hn hm q
  ·refine hno ?_;exact wpAny_loadName_cell (hec env he).1 hk ha hc q
  ·refine hno ?_;exact wpAny_loadName_free (hec env he).1 hk ha hc q hcd
theorem SemE.two{e₁ e₂:Expr}{f g:Loc→M V}(h₁:SemE c ec nl d e₁ f)(h₂:SemE c ec nl d e₂ g)(C:c.Ok){A:Around}{env:Env}{l:Loc}{ρ:Nat→Addr}{st st₁ st₂:St}{a b:V}{s:Shared}{E:Value→Shared→Prop}{Q:Value→Value→Shared→Prop}
 (he:ec env) (hA:AOk d A) (R:RelH c ρ st s.heap) (X:LocR c env nl l ρ st s.heap) (hf:f l st=some (a,st₁)) (hg:g l st₁=some (b,st₂))
 (hQ:∀ρ' h' tk a' b',Nx c NoA ρ st s.heap ρ' st₂ h'→RelH c ρ' st₂ h'→LocR c env nl l ρ' st₂ h'→VR st₂.n ρ' h' a a'→VR st₂.n ρ' h' b b'→Q a' b' {s with heap:=h',toks:=tk}):
 wpAny (model prog w) A (eval e₁ env) (λa' s₁=>wpAny (model prog w) A (eval e₂ env) (λb' s₂=>Q a' b' s₂) E s₁) E s:=
 h₁ A env l ρ st a st₁ s _ E he hA R X hf λρ₁ h₁' tk₁ a' N₁ R₁ X₁ r₁=>
  h₂ A env l ρ₁ st₁ b st₂ {s with heap:=h₁',toks:=tk₁} _ E he hA R₁ X₁ hg λρ₂ h₂' tk₂ b' N₂ R₂ X₂ r₂=>
   hQ ρ₂ h₂' tk₂ a' b' (N₁.trans R R₁ N₂ λ_ q=>q.elim) R₂ X₂ (r₁.tr N₂.tr) r₂
noncomputable def SemOp(c:Cfg prog w)(d:Nat)(t:Value→Value→Sem Value)(f:V→V→M V):Prop:=
 ∀(A:Around) (ρ:Nat→Addr) (st:St) (a b v:V) (st':St) (a' b':Value) (s:Shared) (Q:Value→Shared→Prop) (E:Value→Shared→Prop),
  AOk d A→RelH c ρ st s.heap→VR st.n ρ s.heap a a'→VR st.n ρ s.heap b b'→f a b st=some (v,st')→
  (KO c ρ st s v st' Q)→
  wpAny (model prog w) A (t a' b') Q E s
theorem SemE.binop{op:Operator}{e₁ e₂:Expr}{pos:Pos}{f g:Loc→M V}{o:V→V→M V}(C:c.Ok)(h₁:SemE c ec nl d e₁ f)(h₂:SemE c ec nl d e₂ g)(ho:SemOp c d (binaryOp op) o):
 SemE c ec nl d (.BinOp e₁ op e₂ pos) (λl=>do let a ←f l;let b ←g l;o a b):=by
 intro A env l ρ st v st' s Q E he hA R X hf hQ
 refine E22 (mbind hf) λa st₁ hf1 hr=>?_
 refine E22 (mbind hr) λb st₂ hg hr1=>?_
 exact wpAny_BinOp (h₁.two h₂ C he hA R X hf1 hg λρ' h' tk a' b' N R' X' ra rb=>
  ho A ρ' st₂ a b v st' a' b' {s with heap:=h',toks:=tk} Q E hA R' ra rb hr1 λρ'' h'' tk' v' N' R'' rv=>
   hQ ρ'' h'' tk' v' (N.trans R R' N' λ_ q=>q.elim) R'' (X'.nx C R' R'' N') rv)
theorem SemE.cmp{op:CmpOp}{e₁ e₂:Expr}{pos:Pos}{f g:Loc→M V}{o:V→V→M V}(C:c.Ok)(h₁:SemE c ec nl d e₁ f)(h₂:SemE c ec nl d e₂ g)(ho:SemOp c d (compareOp op) o)(hm:behindInMarks op e₂=false):
 SemE c ec nl d (.Compare e₁ [op] [e₂] pos) (λl=>do let a ←f l;let b ←g l;o a b):=by
 intro A env l ρ st v st' s Q E he hA R X hf hQ
 refine E22 (mbind hf) λa st₁ hf1 hr=>?_
 refine E22 (mbind hr) λb st₂ hg hr1=>?_
 exact wpAny_Compare1 (h₁.two h₂ C he hA R X hf1 hg λρ' h' tk a' b' N R' X' ra rb=>
  ho A ρ' st₂ a b v st' a' b' {s with heap:=h',toks:=tk} Q E hA R' ra rb hr1 λρ'' h'' tk' v' N' R'' rv=>
   hQ ρ'' h'' tk' v' (N.trans R R' N' λ_ q=>q.elim) R'' (X'.nx C R' R'' N') rv) hm
end
end
section
variable{prog:Program}{w:World}
noncomputable def rdO(k:Nat)(st:St):Option AO:=match lk k st.H with
 |some o=>some o
 |none=>lk k st.F
theorem RelH.rdO{c:Cfg prog w}{ρ:Nat→Addr}{st:St}{h:Heap}(X:RelH c ρ st h){k:Nat}{o:AO}(e:rdO k st=some o):OAt prog w st.n ρ h (ρ k) o:=by
 unfold Mine.rdO at e
 refine bc λhno=>?_;cases q:lk k st.H with
 |none=>rw[q]at e;refine hno ?_;exact X.fro k o e
 |some o'=>rw[q]at e;obtain rfl:=sni e;refine hno ?_;exact X.obj k o q
noncomputable def rdV(SR:List (Nat×AO))(v:V)(st:St):Option AO:=match v with
 |.ref k=>rdO k st
 |.adr a=>lk a SR
 |_=>none
noncomputable def SRok(c:Cfg prog w):Prop:=∀a o,lk a c.SR=some o→(∃ob,c.KS.lookup a=some ob)∧∀n ρ h,c.KS.In h→OAt prog w n ρ h a o
theorem RelH.rdV{c:Cfg prog w}(S:SRok c){ρ:Nat→Addr}{st:St}{h:Heap}(X:RelH c ρ st h){v:V}{v':Value}{o:AO}(r:VR st.n ρ h v v')(e:rdV c.SR v st=some o):∃a,v'=.ref a∧OAt prog w st.n ρ h a o:=by
 cases r with
 |ref hk=>exact I12 _ rfl (X.rdO e)
 |adr a=>exact I12 a rfl ((S a o e).2 _ _ _ X.ks)
 |_=>exact nos e
noncomputable def rdL(SR:List (Nat×AO))(v:V):M (List V):=λst=>match rdV SR v st with
 |some (.list xs)=>some (xs,st)
 |_=>none
noncomputable def guard'(b:Bool):M Unit:=λst=>match b with
 |true=>some ((),st)
 |false=>none
theorem guard_inv{b:Bool}{st:St}{r:Unit×St}(e:guard' b st=some r):b=true∧r.2=st:=by
 cases b with
 |true=>obtain rfl:=sin e;exact⟨rfl,rfl⟩
 |false=>exact nos e
noncomputable def i2(g:Int→Int→Option V):V→V→M V
 |.int a,.int b=>λst=>match g a b with
  |some v=>some (v,st)
  |none=>none
 |_,_=>fail
theorem i2_inv{g:Int→Int→Option V}{a b:V}{st:St}{r:V×St}(e:i2 g a b st=some r):∃x y,a=.int x∧b=.int y∧g x y=some r.1∧r.2=st:=by
 cases a with
 |int x=>cases b with
  |int y=>
   refine I23 x y rfl rfl ?_
   have e':(match g x y with|some v=>some (v,st)|none=>none)=some r:=e
   clear e;revert e'
   cases g x y with
   |none=>exact λe=>nos e
   |some v=>exact λe=>sin e▸⟨rfl,rfl⟩
  |_=>exact nos e
 |_=>exact nos e
section
variable{c:Cfg prog w}{d:Nat}
theorem SemOp.ints{t:Value→Value→Sem Value}{g:Int→Int→Option V}
 (h:∀(A:Around) (x y:Int) (u u':Tok) (v:V) (s:Shared) (Q:Value→Shared→Prop) (E:Value→Shared→Prop),g x y=some v→
   (∀tk v',(∀n ρ h,VR n ρ h v v')→Q v' {s with toks:=tk})→wpAny (model prog w) A (t (.int x u) (.int y u')) Q E s):SemOp c d t (i2 g):=by
 intro A ρ st a b v st' a' b' s Q E hA R ra rb hf hQ
 refine bc λhno=>?_;refine E24 (i2_inv hf) λx y q9519 q9520 hg e=>?_;clear hA hf;subst q9519;subst q9520
 cases ra;cases rb
 dsimp only at hg e
 subst e
 refine hno ?_;exact h A x y _ _ v s Q E hg λtk v' hv=>hQ ρ s.heap tk v' .refl R (hv _ _ _)
noncomputable def addI:V→V→M V:=i2 λa b=>some (.int (a+b))
noncomputable def subI:V→V→M V:=i2 λa b=>some (.int (a-b))
noncomputable def smallB(a:Int):Bool:=decide (-9223372036854775808<a)&&decide (a<9223372036854775808)
noncomputable def mulI:V→V→M V:=i2 λa b=>match smallB a with
 |true=>some (.int (a * b))
 |false=>none
noncomputable def posB(b:Int):Bool:=decide (0<b)&&decide (b<9223372036854775808)
noncomputable def modI:V→V→M V:=i2 λa b=>match posB b with
 |true=>some (.int (Int.fmod a b))
 |false=>none
noncomputable def divI:V→V→M V:=i2 λa b=>match posB b with
 |true=>some (.int (Int.fdiv a b))
 |false=>none
noncomputable def cmpI(g:Int→Int→Bool):V→V→M V:=i2 λa b=>some (.bool (g a b))
theorem op_add:SemOp c d (binaryOp .Add) addI:=.ints λA x y u u' v s Q E e hQ=>add_int (by cases e;exact hQ _ _ λ_ _ _=>.int _ _)
theorem op_sub:SemOp c d (binaryOp .Sub) subI:=.ints λA x y u u' v s Q E e hQ=>sub_int (by cases e;exact hQ _ _ λ_ _ _=>.int _ _)
theorem smallB_iff{a:Int}(h:smallB a=true): -9223372036854775808<a∧a<9223372036854775808:=by
 unfold smallB at h
 rw[Bool.and_eq_true]at h
 exact⟨of_decide_eq_true h.1,of_decide_eq_true h.2⟩
theorem posB_iff{a:Int}(h:posB a=true):0<a∧a<9223372036854775808:=by
 unfold posB at h
 rw[Bool.and_eq_true]at h
 exact⟨of_decide_eq_true h.1,of_decide_eq_true h.2⟩
theorem op_mul:SemOp c d (binaryOp .Mult) mulI:=.ints λA x y u u' v s Q E e hQ=>by
 cases q:smallB x with
 |false=>rw[q]at e;cases e
 |true=>
  rw[q]at e;cases e
  have hb:=smallB_iff q
  refine mul_int (hQ _ _ λ_ _ _=>.int _ _) ?_
  unfold IntMulOk
  have:=PySem.intBits_le_64 (k:=x) (by lia) (by lia)
  simp[shortFactorBits]
  lia
theorem op_mod:SemOp c d (binaryOp .Mod) modI:=.ints λA x y u u' v s Q E e hQ=>by
 cases q:posB y with
 |false=>rw[q]at e;cases e
 |true=>
  rw[q]at e;cases e
  have hb:=posB_iff q
  exact mod_int' (by lia) (hQ _ _ λ_ _ _=>.int _ _)
theorem op_div:SemOp c d (binaryOp .FloorDiv) divI:=.ints λA x y u u' v s Q E e hQ=>by
 cases q:posB y with
 |false=>rw[q]at e;cases e
 |true=>
  rw[q]at e;cases e
  have hb:=posB_iff q
  refine floordiv_int (by omega) (hQ _ _ λ_ _ _=>.int _ _) (.inl ?_)
  unfold Builtin.divisionGoesByPylong
  have h1:y.natAbs.log2<64:=(Nat.log2_lt (by omega)).mpr (by omega)
  have h2:(y==0)=false:=by simp;omega
  simp only[h2,Bool.false_eq_true,if_false,Bool.and_eq_false_iff,decide_eq_false_iff_not]
  left;omega
theorem op_lt:SemOp c d (compareOp .Lt) (cmpI λa b=>decide (a<b)):=.ints λA x y u u' v s Q E e hQ=>lt_int (by cases e;exact hQ s.toks _ λ_ _ _=>.bool _)
theorem op_le:SemOp c d (compareOp .LtE) (cmpI λa b=>decide (a≤b)):=.ints λA x y u u' v s Q E e hQ=>le_int (by cases e;exact hQ s.toks _ λ_ _ _=>.bool _)
theorem op_gt:SemOp c d (compareOp .Gt) (cmpI λa b=>decide (b<a)):=.ints λA x y u u' v s Q E e hQ=>gt_int (by cases e;exact hQ s.toks _ λ_ _ _=>.bool _)
theorem op_ge:SemOp c d (compareOp .GtE) (cmpI λa b=>decide (b≤a)):=.ints λA x y u u' v s Q E e hQ=>ge_int (by cases e;exact hQ s.toks _ λ_ _ _=>.bool _)
noncomputable def isNo:V→Option Bool
 |.none=>some true
 |.bi _=>none
 |_=>some false
noncomputable def isNone(neg:Bool):V→V→M V
 |a,.none=>λst=>match isNo a with
  |some b=>some (.bool (Bool.xor neg b),st)
  |none=>none
 |_,_=>fail
theorem isNone_inv{neg:Bool}{a b:V}{st:St}{r:V×St}(e:isNone neg a b st=some r):b=.none∧∃x,isNo a=some x∧r=(.bool (Bool.xor neg x),st):=by
 have h:b=.none:=by
  cases b with
  |none=>rfl
  |_=>exact nos e
 subst h
 refine⟨rfl,?_⟩
 have e':(match isNo a with|some b=>some (V.bool (Bool.xor neg b),st)|none=>none)=some r:=e
 clear e;revert e'
 cases isNo a with
 |none=>exact λe=>nos e
 |some x=>exact λe=>⟨x,rfl,sni e⟩
theorem op_is:SemOp c d (compareOp .Is) (isNone false):=by
 intro A ρ st a b v st' a' b' s Q E hA R ra rb hf hQ
 obtain⟨rfl,x,hx,e⟩:=isNone_inv hf
 clear hA hf;cases e
 cases rb
 have q:=hQ ρ s.heap s.toks (.bool x) .refl R (by rw[Bool.false_xor];exact .bool _)
 clear R hQ;cases ra <;> first|(cases hx;exact wpAny_is_self rfl q)|(cases hx;exact wpAny_is_other rfl (λz=>nomatch z) q)|cases hx
theorem op_isNot:SemOp c d (compareOp .IsNot) (isNone true):=by
 intro A ρ st a b v st' a' b' s Q E hA R ra rb hf hQ
 obtain⟨rfl,x,hx,e⟩:=isNone_inv hf
 clear hA hf;cases e
 cases rb
 have q:=hQ ρ s.heap s.toks (.bool (!x)) .refl R (by rw[Bool.true_xor];exact .bool _)
 clear R hQ;cases ra <;> first|(cases hx;exact wpAny_isNot_self rfl q)|(cases hx;exact wpAny_isNot_other rfl (λz=>nomatch z) q)|cases hx
mutual
noncomputable def V.py:V→Option PyData
 |.none=>Option.some .none
 |.bool b=>Option.some (.bool b)
 |.int i=>Option.some (.int i)
 |.str x=>Option.some (.str ⟨x.toArray⟩)
 |.tup vs=>match V.pys vs with
  |Option.some l=>Option.some (.tuple l)
  |Option.none=>Option.none
 |_=>Option.none
noncomputable def V.pys:List V→Option (List PyData)
 | []=>Option.some []
 |v::vs=>match V.py v,V.pys vs with
  |Option.some x,Option.some l=>Option.some (x::l)
  |_,_=>Option.none
end
theorem pys_cons{v:V}{vs:List V}{l:List PyData}(e:V.pys (v::vs)=some l):∃x r,V.py v=some x∧V.pys vs=some r∧l=x::r:=by
 have e':(match V.py v,V.pys vs with|some x,some l=>some (x::l)|_,_=>none)=some l:=e
 clear e;revert e'
 cases V.py v with
 |none=>exact λe=>nos e
 |some x=>cases V.pys vs with
  |none=>exact λe=>nos e
  |some r=>exact λe=>⟨x,r,rfl,rfl,sni e⟩
theorem py_tup{vs:List V}{p:PyData}(e:V.py (.tup vs)=some p):∃l,V.pys vs=some l∧p=.tuple l:=by
 have e':(match V.pys vs with|some l=>some (PyData.tuple l)|none=>none)=some p:=e
 clear e;revert e'
 cases V.pys vs with
 |none=>exact λe=>nos e
 |some l=>exact λe=>⟨l,rfl,sni e⟩
theorem tup_py{vs:List V}{l:List PyData}(e:V.pys vs=some l):V.py (.tup vs)=some (.tuple l):=by
 show(match V.pys vs with|some l=>some (PyData.tuple l)|none=>none)= _
 rw[e]
theorem VR.reads{n:Nat}{ρ:Nat→Addr}{h:Heap}{v:V}{v':Value}(r:VR n ρ h v v'):∀ {p:PyData},v.py=some p→∃as,Reads h v' p as:=
 VR.rec (motive_1:=λv v' _=>∀ {p:PyData},v.py=some p→∃as,Reads h v' p as) (motive_2:=λvs vs' _=>∀ {l:List PyData},V.pys vs=some l→∃as,ReadsAll h vs' l as)
   (λe=>sin e▸⟨_,.none⟩) (λb _ e=>sin e▸⟨_,.bool b⟩) (λi t _ e=>sin e▸⟨_,.int i t⟩) (λx t h _ e=>sin e▸h▸⟨_,.str x t⟩)
   (λ{vs a items} ht _ ih p e=>E12 (py_tup e) λl q q1=>E11 (ih q) λas ra=>E13 ht λo ho hc y=>E11 y λk hd=>q1▸⟨as,.tuple ho hc hd ra⟩)
   (λ_ _ e=>nos e) (λ_ _ e=>nos e) (λ_ _ e=>nos e) (λ_ _ e=>nos e)
   (λe=>sin e▸⟨_,.nil⟩) (λ_ _ ha hb _ e=>E23 (pys_cons e) λx r q1 q2 q3=>E11 (ha q1) λas ra=>E11 (hb q2) λbs rb=>q3▸⟨_,.cons ra rb⟩) r
theorem VRs.reads{n:Nat}{ρ:Nat→Addr}{h:Heap}{vs:List V}{vs':List Value}(r:VRs n ρ h vs vs'):∀ {l:List PyData},V.pys vs=some l→∃as,ReadsAll h vs' l as:=
 VRs.ind (P:=λvs vs'=>∀ {l:List PyData},V.pys vs=some l→∃as,ReadsAll h vs' l as) (λe=>sin e▸⟨_,.nil⟩) (λa _ ih _ e=>E23 (pys_cons e) λx r q1 q2 q3=>E11 (a.reads q1) λas ra=>E11 (ih q2) λbs rb=>q3▸⟨_,.cons ra rb⟩) r
end
end
section
variable{prog:Program}{w:World}
noncomputable def KVs(c:Cfg prog w)(env:Env)(nl:List Str)(l:Loc)(ρ:Nat→Addr)(st:St)(s:Shared)(v:List V)(st':St)(Q:List Value→Shared→Prop):Prop:=
 ∀ρ' h' tk v',Nx c NoA ρ st s.heap ρ' st' h'→RelH c ρ' st' h'→LocR c env nl l ρ' st' h'→VRs st'.n ρ' h' v v'→Q v' {s with heap:=h',toks:=tk}
noncomputable def SemEs(c:Cfg prog w)(ec:Env→Prop)(nl:List Str)(d:Nat)(es:List Expr)(f:Loc→M (List V)):Prop:=
 ∀(pos:Pos) (A:Around) (env:Env) (l:Loc) (ρ:Nat→Addr) (st:St) (v:List V) (st':St) (s:Shared) (Q:List Value→Shared→Prop) (E:Value→Shared→Prop),
  ec env→AOk d A→RelH c ρ st s.heap→LocR c env nl l ρ st s.heap→f l st=some (v,st')→
  (KVs c env nl l ρ st s v st' Q)→
  wpAny (model prog w) A (spliced (backTo pos (starEach es env))) Q E s
noncomputable def plainEs:List Expr→Bool
 | []=>true
 |.Starred .. ::_=>false
 |_::r=>plainEs r
theorem plain_any{env:Env}{pos:Pos}:∀ {es:List Expr},plainEs es=true→(backTo pos (starEach es env)).any (·.1)=false
 | [],_=>rfl
 |e::r,h=>by
  have ih:plainEs r=true→(backTo pos (starEach r env)).any (·.1)=false:=plain_any
  cases e <;> first|(exact ih h)|cases h
noncomputable def SemCall(c:Cfg prog w)(d:Nat)(fv:V)(g:List V→M V):Prop:=
 ∀(A:Around) (ρ:Nat→Addr) (st:St) (args:List V) (v:V) (st':St) (fv':Value) (args':List Value) (s:Shared) (Q:Value→Shared→Prop) (E:Value→Shared→Prop),
  AOk d A→RelH c ρ st s.heap→VR st.n ρ s.heap fv fv'→VRs st.n ρ s.heap args args'→g args st=some (v,st')→
  (KO c ρ st s v st' Q)→
  wpAny (model prog w) A (call fv' args') Q E s
noncomputable def Keep(c:Cfg prog w)(fv:V):Prop:=∀(n:Nat) (ρ:Nat→Addr) (h:Heap) (fv':Value),c.KS.In h→VR n ρ h fv fv'→∃k,(k=Keeper.frame∨k=Keeper.machine∨k=Keeper.boundFrame)∧Looks (model prog w) h (keeperOf fv') k
section
variable{c:Cfg prog w}{ec:Env→Prop}{nl:List Str}{d:Nat}
theorem Keep.bi{id:String}:Keep c (.bi id):=by
 intro n ρ h fv' _ r;cases r;exact I12 .machine (.inr (.inl rfl)) (Looks.of_pure rfl)
theorem Keep.ty{x:String}:Keep c (.ty x):=by
 intro n ρ h fv' _ r;cases r;exact I12 .machine (.inr (.inl rfl)) (Looks.of_pure rfl)
theorem Keep.adr{a:Addr}(e:keepIn c.KS (.ref a)=true):Keep c (.adr a):=by
 intro n ρ h fv' X r;cases r
 refine E12 (looks_keep (M:=model prog w) e X) λk hk L=>?_
 exact I12 k (hk.elim .inl λz=>.inr (.inl z)) L
theorem SemEs.nil:SemEs c ec nl d [] λ_=>pure []:=by
 intro pos A env l ρ st v st' s Q E he hA R X hf hQ
 refine E02 (Prod.mk.inj (mpure hf)) λq9393 q9394=>?_;clear he hA hf;subst q9393;subst q9394
 exact Calls.spliced_nil (hQ ρ s.heap s.toks _ .refl R X .nil)
theorem SemEs.cons{e:Expr}{es:List Expr}{f:Loc→M V}{g:Loc→M (List V)}(C:c.Ok)(h₁:SemE c ec nl d e f)(h₂:SemEs c ec nl d es g)(hs:∀env,starEach (e::es) env=(false,eval e env)::starEach es env:=by intro _;rfl):
 SemEs c ec nl d (e::es) (λl=>do let a ←f l;let b ←g l;pure (a::b)):=by
 intro pos A env l ρ st v st' s Q E he hA R X h0 hQ
 refine bc λhno=>?_;obtain⟨a,st₁,hf,hr⟩:=mbind h0
 clear h0
 obtain⟨b,st₂,hg,hr⟩:=mbind hr
 obtain⟨rfl,rfl⟩:=Prod.mk.inj (mpure hr)
 refine hno ?_;rw[hs]
 refine Calls.spliced_cons (h₁ A env l ρ st a st₁ s _ E he hA R X hf λρ₁ h₁' tk₁ a' N₁ R₁ X₁ r₁=>?_)
 exact h₂ pos A env l ρ₁ st₁ b _ {s with heap:=h₁',toks:=tk₁} _ E he hA R₁ X₁ hg λρ₂ h₂' tk₂ b' N₂ R₂ X₂ r₂=>
  hQ ρ₂ h₂' tk₂ (a'::b') (N₁.trans R R₁ N₂ λ_ q=>q.elim) R₂ X₂ (.cons (r₁.tr N₂.tr) r₂)
theorem evalArgs_sem{M:Model}{A:Around}{E:Value→Shared→Prop}{s:Shared}{f:Value}{args:List (Bool×Sem Value)}{Q:Args→Shared→Prop}(hn:args.any (·.1)=false)
 (h:wpAny M A (spliced args) (λvs s'=>Q ⟨vs,[]⟩ s') E s):wpAny M A (evalArgs f true args []) Q E s:=by
 match args,hn,h with
 | [],_,h=>
   unfold evalArgs
   show wpAny M A (spliced [] >>= _) Q E s
   refine wpAny_bind (wpAny_mono h (λvs s' h'=>?_) λ_ _ x=>x)
   refine wpAny_bind (wpAny_pure (wpAny_holding ?_))
   exact wpAny_bind (wpAny_pure (wpAny_bind (wpAny_pure (wpAny_pure h'))))
 |(true,_)::_,hn,_=>simp at hn
 |(false,x)::rest,_,h=>exact evalArgs_plain h
theorem callWith_sem{fv:V}{args:List Expr}{pos:Pos}{fs:Loc→M (List V)}{g:List V→M V}(C:c.Ok)(hk:Keep c fv)(hp:plainEs args=true)(ha:SemEs c ec nl d args fs)(hc:SemCall c d fv g)
 {A:Around} {env:Env} {l:Loc} {ρ:Nat→Addr} {st st₁ st':St} {first vs:List V} {v:V} {fv':Value} {first':List Value} {s:Shared} {Q:Value→Shared→Prop} {E:Value→Shared→Prop}
 (he:ec env) (hA:AOk d A) (R:RelH c ρ st s.heap) (X:LocR c env nl l ρ st s.heap) (rf:VR st.n ρ s.heap fv fv') (r1:VRs st.n ρ s.heap first first') (hf:fs l st=some (vs,st₁)) (hg:g (first++vs) st₁=some (v,st'))
 (hQ:KE c env nl l ρ st s v st' Q):
 wpAny (model prog w) A (callWith pos fv' first' (backTo pos (starEach args env)) []) Q E s:=by
 refine callWith_of (P:=λh=>c.KS.In h∧∃n ρ,VR n ρ h fv fv') (by rw[plain_any hp];rfl) (λh ⟨X,n,ρ,r⟩=>hk n ρ h fv' X r) ?_
 have key:wpAny (model prog w) A (spliced (backTo pos (starEach args env))) (λvs' s'=>(c.KS.In s'.heap∧∃n ρ,VR n ρ s'.heap fv fv')∧wpAny (model prog w) A (call fv' (first'++vs') []) Q E s') E s:=by
  refine ha pos A env l ρ st vs st₁ s _ E he hA R X hf λρ₁ h₁ tk₁ vs' N₁ R₁ X₁ rs=>⟨⟨R₁.ks,_,_,rf.tr N₁.tr⟩,?_⟩
  refine hc A ρ₁ st₁ (first++vs) v st' fv' (first'++vs') {s with heap:=h₁,toks:=tk₁} Q E hA R₁ (rf.tr N₁.tr) ((r1.tr N₁.tr).append rs) hg λρ₂ h₂ tk₂ v' N₂ R₂ rv=>?_
  exact hQ ρ₂ h₂ tk₂ v' (N₁.trans R R₁ N₂ λ_ q=>q.elim) R₂ (X₁.nx C R₁ R₂ N₂) rv
 exact evalArgs_sem (plain_any hp) key
theorem SemE.call{fe:Expr}{fv:V}{args:List Expr}{pos:Pos}{fs:Loc→M (List V)}{g:List V→M V}(C:c.Ok)(hk:Keep c fv)(hp:plainEs args=true)(hfe:SemE c ec nl d fe λ_=>pure fv)(ha:SemEs c ec nl d args fs)(hc:SemCall c d fv g)
 (hx:∃x p,fe=.Name x p):SemE c ec nl d (.Call fe args [] pos) (λl=>do let vs ←fs l;g vs):=by
 intro A env l ρ st v st' s Q E he hA R X h0 hQ
 refine E22 (mbind h0) λvs st₁ hf hg=>?_
 refine E21 hx λx p q9694=>?_;clear hx;subst q9694
 refine wpAny_Call_NameR (hfe A env l ρ st fv st s _ E he hA R X rfl λρ₁ h₁ tk₁ fv' N₁ R₁ X₁ rf=>?_)
 exact callWith_sem (first:=[]) (s:={s with heap:=h₁,toks:=tk₁}) C hk hp ha hc he hA R₁ X₁ rf .nil hf hg λρ₂ h₂ tk₂ v' N₂ R₂ X₂ rv=>hQ ρ₂ h₂ tk₂ v' (N₁.trans R R₁ N₂ λ_ q=>q.elim) R₂ X₂ rv
noncomputable def mkL(xs:List V):M V:=λst=>match Nat.ble xs.length 100000 with
 |true=>some (.ref st.n,st.add (.list xs))
 |false=>none
theorem mkL_inv{xs:List V}{st:St}{r:V×St}(e:mkL xs st=some r):xs.length≤100000∧r=(.ref st.n,st.add (.list xs)):=by
 unfold mkL at e
 cases q:Nat.ble xs.length 100000 with
 |true=>rw[q]at e;obtain rfl:=sin e;exact⟨Nat.le_of_ble_eq_true q,rfl⟩
 |false=>rw[q]at e;exact nos e
theorem fresh_size{h:Heap}:h.get? h.objs.size=none:=Heap.get?_none_of_le (Nat.le_refl _)
theorem list_new(C:c.Ok){ρ:Nat→Addr}{st:St}{h:Heap}(R:RelH c ρ st h){xs:List V}{vs:List Value}(r:VRs st.n ρ h xs vs):
 Nx c NoA ρ st h (put ρ st.n h.objs.size) (st.add (.list xs)) (h.push {cls:=.type "list",data:=.seq vs.toArray})∧RelH c (put ρ st.n h.objs.size) (st.add (.list xs)) (h.push {cls:=.type "list",data:=.seq vs.toArray})∧
  VR (st.n+1) (put ρ st.n h.objs.size) (h.push {cls:=.type "list",data:=.seq vs.toArray}) (.ref st.n) (.ref h.objs.size):=by
 have k:∀b o,h.get? b=some o→(h.push {cls:=.type "list",data:=.seq vs.toArray}).get? b=some o:=λb o e=>Heap.get?_push_of_some _ e
 have T:Tr st.n ρ h st.n ρ (h.push {cls:=.type "list",data:=.seq vs.toArray}):=⟨Nat.le_refl _,λ_ _=>rfl,λa items x=>x.push _⟩
 refine I03 (.alloc R k fresh_size) (.alloc C R k fresh_size ⟨vs.toArray,0,Heap.get?_push_size _ rfl,by simpa using r.tr T⟩) ?_
 have e:put ρ st.n h.objs.size st.n=h.objs.size:=if_pos rfl
 have q:=VR.ref (n:=st.n+1) (ρ:=put ρ st.n h.objs.size) (h:=h.push {cls:=.type "list",data:=.seq vs.toArray}) (k:=st.n) (Nat.lt_succ_self _)
 rwa [e]at q
theorem SemE.list{es:List Expr}{pos:Pos}{fs:Loc→M (List V)}(C:c.Ok)(h:SemEs c ec nl d es fs):SemE c ec nl d (.List es pos) (λl=>do let vs ←fs l;mkL vs):=by
 intro A env l ρ st v st' s Q E he hA R X h0 hQ
 refine bc λhno=>?_;refine E22 (mbind h0) λvs st₁ hf hg=>?_
 clear h0;refine E02 (mkL_inv hg) λhl e=>?_
 refine E02 (Prod.mk.inj e) λq9883 q9884=>?_;subst q9883;subst q9884
 refine hno ?_;refine wpAny_List_spliced (h pos A env l ρ st vs st₁ s _ E he hA R X hf λρ₁ h₁ tk₁ vs' N₁ R₁ X₁ r₁=>⟨by rw[r₁.length,sizeLine_eq];lia,?_⟩)
 refine E03 (list_new C R₁ r₁) λN₂ R₂ rv=>?_
 exact hQ _ _ _ _ (N₁.trans R R₁ N₂ λ_ q=>q.elim) R₂ (X₁.nx C R₁ R₂ N₂) rv
theorem SemE.tup{es:List Expr}{k:Nat}{pos:Pos}{fs:Loc→M (List V)}(C:c.Ok)(h:SemEs c ec nl d es fs)(hl:es.length≤100):SemE c ec nl d (.Tuple es k pos) (λl=>do let vs ←fs l;guard' (Nat.ble vs.length 100000);pure (.tup vs)):=by
 intro A env l ρ st v st' s Q E he hA R X h0 hQ
 refine bc λhno=>?_;refine E22 (mbind h0) λvs st₁ hf hg=>?_
 refine E22 (mbind hg) λu st₂ hg1 hp=>?_
 refine E02 (guard_inv hg1) λhb e2=>?_
 dsimp only at e2;clear h0 hg hg1;subst e2
 refine E02 (Prod.mk.inj (mpure hp)) λq9953 q9954=>?_;clear hp;subst q9953;subst q9954
 have hl:=Nat.le_of_ble_eq_true hb
 refine hno ?_;refine wpAny_Tuple_spliced (h pos A env l ρ st vs _ s _ E he hA R X hf λρ₁ h₁ tk₁ vs' N₁ R₁ X₁ r₁=>⟨by rw[r₁.length,sizeLine_eq];lia,?_⟩)
 have k:∀b o,h₁.get? b=some o→(h₁.push {cls:=.type "tuple",data:=.seq vs'.toArray}).get? b=some o:=λb o e=>Heap.get?_push_of_some _ e
 have N₂:Nx c NoA ρ₁ st' h₁ ρ₁ st' (h₁.push {cls:=.type "tuple",data:=.seq vs'.toArray}):=.keep k
 have R₂:=R₁.keep C k
 exact hQ _ _ tk₁ _ (N₁.trans R R₁ N₂ λ_ q=>q.elim) R₂ (X₁.nx C R₁ R₂ N₂) (.tup ⟨_,Heap.get?_push_size _ rfl,rfl,_,rfl⟩ (by simpa using r₁.tr N₂.tr))
end
end
section
variable{prog:Program}{w:World}
noncomputable def FPe(env:Env):Addr→Prop:=λb=>b=env.locals∨∃x,env.cells.lookup x=some b
inductive Fl where
 |next|brk|cont|ret (v:V)
inductive FlR (n:Nat) (ρ:Nat→Addr) (h:Heap):Fl→Flow→Prop
 |next:FlR n ρ h .next .next
 |brk:FlR n ρ h .brk .brk
 |cont:FlR n ρ h .cont .cont
 |ret {v:V} {v':Value}:VR n ρ h v v'→FlR n ρ h (.ret v) (.ret v')
noncomputable def KA(c:Cfg prog w)(fp:Env→Addr→Prop)(env:Env)(nl:List Str)(l':Loc)(ρ:Nat→Addr)(st:St)(s:Shared)(st':St)(Q:Unit→Shared→Prop):Prop:=
 ∀ρ' h' tk,Nx c (fp env) ρ st s.heap ρ' st' h'→RelH c ρ' st' h'→LocR c env nl l' ρ' st' h'→Q () {s with heap:=h',toks:=tk}
noncomputable def KS(c:Cfg prog w)(env:Env)(nl:List Str)(l':Loc)(ρ:Nat→Addr)(st:St)(s:Shared)(fl:Fl)(st':St)(Q:Flow→Shared→Prop):Prop:=
 ∀ρ' h' tk fl',Nx c (FPe env) ρ st s.heap ρ' st' h'→RelH c ρ' st' h'→LocR c env nl l' ρ' st' h'→FlR st'.n ρ' h' fl fl'→Q fl' {s with heap:=h',toks:=tk}
noncomputable def SemA(c:Cfg prog w)(ec:Env→Prop)(nl:List Str)(d:Nat)(fp:Env→Addr→Prop)(t:Expr)(f:V→Loc→M Loc):Prop:=
 ∀(A:Around) (env:Env) (l:Loc) (ρ:Nat→Addr) (st:St) (v:V) (l':Loc) (st':St) (v':Value) (s:Shared) (Q:Unit→Shared→Prop) (E:Value→Shared→Prop),
  ec env→AOk d A→RelH c ρ st s.heap→LocR c env nl l ρ st s.heap→VR st.n ρ s.heap v v'→f v l st=some (l',st')→
  (KA c fp env nl l' ρ st s st' Q)→
  wpAny (model prog w) A (assign t env v') Q E s
noncomputable def SemS(c:Cfg prog w)(ec:Env→Prop)(nl:List Str)(d:Nat)(b:Stmt)(f:Loc→M (Loc×Fl)):Prop:=
 ∀(A:Around) (env:Env) (l:Loc) (ρ:Nat→Addr) (st:St) (l':Loc) (fl:Fl) (st':St) (s:Shared) (Q:Flow→Shared→Prop) (E:Value→Shared→Prop),
  ec env→AOk d A→RelH c ρ st s.heap→LocR c env nl l ρ st s.heap→f l st=some ((l',fl),st')→
  (KS c env nl l' ρ st s fl st' Q)→
  wpAny (model prog w) A (exec b env) Q E s
noncomputable def SemB(c:Cfg prog w)(ec:Env→Prop)(nl:List Str)(d:Nat)(b:List Stmt)(f:Loc→M (Loc×Fl)):Prop:=
 ∀(A:Around) (env:Env) (l:Loc) (ρ:Nat→Addr) (st:St) (l':Loc) (fl:Fl) (st':St) (s:Shared) (Q:Flow→Shared→Prop) (E:Value→Shared→Prop),
  ec env→AOk d A→RelH c ρ st s.heap→LocR c env nl l ρ st s.heap→f l st=some ((l',fl),st')→
  (KS c env nl l' ρ st s fl st' Q)→
  wpAny (model prog w) A (execs b env) Q E s
theorem Ns.uniq{h:Heap}{a:Addr}{m m':Str→Option Value}(x:h.Ns a m)(y:h.Ns a m'):m=m':=by
 refine E34 x λo es ep e d _ f=>?_;clear x
 refine E34 y λo' es' ep' e' d' _ f'=>?_;clear y
 obtain rfl:=oin e e'
 rw[d]at d';cases d'
 funext z;rw[←f,←f']
theorem Ns.mov{h:Heap}{a:Addr}{m:Str→Option Value}(x:h.Ns a m):Mov h a:=by
 refine E33 x λo es ep e d _=>?_;clear x
 exact I13 o e (.inl (by simp[d])) (.inr (by simp[d]))
theorem Cell.mov{h:Heap}{a:Addr}{v:Option Value}(x:h.IsCell a v):Mov h a:=by
 refine E12 x λo e d=>?_;clear x
 exact I13 o e (.inl (by simp[d])) (.inr (by simp[d]))
section
variable{c:Cfg prog w}{ec:Env→Prop}{nl:List Str}{d:Nat}
inductive NameIs (env:Env) (x:Str):Prop
 |loc:env.kindOf x=some .local→NameIs env x
 |cell (a:Addr):env.kindOf x=some .cell→env.cells.lookup x=some a→NameIs env x
theorem store_nameL(C:c.Ok){A:Around}{env:Env}{l:Loc}{ρ:Nat→Addr}{st:St}{i:Nat}{x:Str}{v:V}{v':Value}{s:Shared}{Q:Unit→Shared→Prop}{E:Value→Shared→Prop}
 (he:EnvOk env) (hx:nl[i]? =some x) (hk:env.kindOf x=some .local) (R:RelH c ρ st s.heap) (X:LocR c env nl l ρ st s.heap) (rv:VR st.n ρ s.heap v v')
 (hQ:∀h' tk,Nx c (λb=>b=env.locals) ρ st s.heap ρ st h'→RelH c ρ st h'→LocR c env nl (up i v l) ρ st h'→Q () {s with heap:=h',toks:=tk}):
 wpAny (model prog w) A (storeName env x v') Q E s:=by
 have inx:∀j y,nl[j]? =some y→j≠i→y≠x:=by
  intro j y hj hne e
  clear C he hk R rv hQ;subst e
  exact hne ((List.getElem?_inj (List.getElem?_eq_some_iff.mp hj).1 X.nd).mp (hj.trans hx.symm))
 obtain⟨m,hn⟩:=X.lns
 refine wpAny_storeName_local hk hn (λh' hn' hs=>?_) (by rw[he.1];rfl)
 have ho':∃o',h'.get? env.locals=some o':=let⟨o,_,_,e,_⟩:=hn';⟨o,e⟩
 have N:=(Nx.aside C R hs X.low (Ns.mov hn) ho')
 have R':=R.aside C hs X.low (Ns.mov hn) X.sep
 refine hQ h' _ N R' ?_
 refine⟨X.nd,λj u e=>?_,⟨_,hn'⟩,λy a ha=>?_,X.low,X.lowc,X.sep,X.sepc,X.clc,X.inj⟩
 ·rw[lk_up]at e
  by_cases q:j=i
  ·obtain rfl:=oin (if_pos q) e
   exact I23 x v' (q▸hx) (.inl ⟨hk,_,hn',if_pos rfl⟩) (rv.tr N.tr)
  ·rw[if_neg q]at e
   refine E23 (X.var j u e) λy u' hy hv ru=>?_
   refine I23 y u' hy ?_ (ru.tr N.tr)
   rcases hv with⟨hky,m',hn'',hm⟩|⟨hky,a,ha,hc⟩
   ·obtain rfl:=Ns.uniq hn hn''
    exact .inl ⟨hky,_,hn',(if_neg (inx j y hy q)).trans hm⟩
   ·refine E12 hc λo e1 d=>?_;clear hc
    exact .inr ⟨hky,a,ha,o,(hs.2 a (X.clc y a ha)).trans e1,d⟩
 ·refine E22 (X.cel y a ha) λu o e d=>?_
  exact I22 u o ((hs.2 a (X.clc y a ha)).trans e) d
theorem store_name(C:c.Ok){A:Around}{env:Env}{l:Loc}{ρ:Nat→Addr}{st:St}{i:Nat}{x:Str}{v:V}{v':Value}{s:Shared}{Q:Unit→Shared→Prop}{E:Value→Shared→Prop}
 (he:EnvOk env) (hx:nl[i]? =some x) (hk:NameIs env x) (R:RelH c ρ st s.heap) (X:LocR c env nl l ρ st s.heap) (rv:VR st.n ρ s.heap v v')
 (hQ:∀h' tk,Nx c (FPe env) ρ st s.heap ρ st h'→RelH c ρ st h'→LocR c env nl (up i v l) ρ st h'→Q () {s with heap:=h',toks:=tk}):
 wpAny (model prog w) A (storeName env x v') Q E s:=by
 have inx:∀j y,nl[j]? =some y→j≠i→y≠x:=by
  intro j y hj hne e
  clear C he hk R rv hQ;subst e
  exact hne ((List.getElem?_inj (List.getElem?_eq_some_iff.mp hj).1 X.nd).mp (hj.trans hx.symm))
 cases hk with
 |loc hk=>
  exact store_nameL C he hx hk R X rv λh' tk N R' X'=>hQ h' tk (N.wide λb q=>.inl q) R' X'
 |cell a hk ha=>
  obtain⟨u₀,hc⟩:=X.cel x a ha
  refine wpAny_storeName_cell he.1 hk ha hc (λh' hc' hs=>?_)
  have ho':∃o',h'.get? a=some o':=let⟨o,e,_⟩:=hc';⟨o,e⟩
  have hsep:∀k,Has k st.H∨Has k st.F→ρ k≠a:=λk q=>X.sepc k q x a ha
  have N:=(Nx.aside C R hs (X.lowc x a ha) (Cell.mov hc) ho')
  have R':=R.aside C hs (X.lowc x a ha) (Cell.mov hc) hsep
  refine hQ h' _ (N.wide λb q=>.inr ⟨x,q▸ha⟩) R' ?_
  obtain⟨m,hn⟩:=X.lns
  have hL:env.locals≠a:=λq=>X.clc x a ha q.symm
  have hn':h'.Ns env.locals m:=hn.sameBut hs hL
  refine⟨X.nd,λj u e=>?_,⟨_,hn'⟩,λy b hb=>?_,X.low,X.lowc,X.sep,X.sepc,X.clc,X.inj⟩
  ·rw[lk_up]at e
   by_cases q:j=i
   ·obtain rfl:=oin (if_pos q) e
    exact I23 x v' (q▸hx) (.inr ⟨.inl hk,a,ha,hc'⟩) (rv.tr N.tr)
   ·rw[if_neg q]at e
    refine E23 (X.var j u e) λy u' hy hv ru=>?_
    refine I23 y u' hy ?_ (ru.tr N.tr)
    rcases hv with⟨hky,m',hn'',hm⟩|⟨hky,b,hb,o,e',d⟩
    ·exact .inl ⟨hky,_,hn''.sameBut hs hL,hm⟩
    ·have:b≠a:=λz=>inx j y hy q (X.inj y x b hb (z▸ha))
     exact .inr ⟨hky,b,hb,o,(hs.2 b this).trans e',d⟩
  ·by_cases z:b=a
   ·clear C he hx R X rv hQ inx hk ha hc hs ho' hsep N R' hn hL hn' hb;subst z;exact⟨_,hc'⟩
   ·refine E22 (X.cel y b hb) λu o e d=>?_
    exact I22 u o ((hs.2 b z).trans e) d
noncomputable def st'(i:Nat):V→Loc→M Loc:=λv l=>pure (up i v l)
theorem SemA.name{i:Nat}{x:Str}{pos:Pos}(C:c.Ok)(hec:∀env,ec env→EnvOk env)(hx:nl[i]? =some x)(hk:∀env,ec env→NameIs env x):SemA c ec nl d FPe (.Name x pos) (st' i):=by
 intro A env l ρ st v l' st1 v' s Q E he hA R X rv h0 hQ
 refine E02 (Prod.mk.inj (mpure h0)) λq9967 q9968=>?_;clear hA h0;subst q9967;subst q9968
 exact wpAny_assign_Name (store_name C (hec env he) hx (hk env he) R X rv λh' tk N R' X'=>hQ ρ h' tk N R' X')
noncomputable abbrev FPl(env:Env):Addr→Prop:=λb=>b=env.locals
theorem SemA.nameL{i:Nat}{x:Str}{pos:Pos}(C:c.Ok)(hec:∀env,ec env→EnvOk env)(hx:nl[i]? =some x)(hk:∀env,ec env→env.kindOf x=some .local):SemA c ec nl d FPl (.Name x pos) (st' i):=by
 intro A env l ρ st v l' st1 v' s Q E he hA R X rv h0 hQ
 refine E02 (Prod.mk.inj (mpure h0)) λq99 q910=>?_;clear hA h0;subst q99;subst q910
 exact wpAny_assign_Name (store_nameL C (hec env he) hx (hk env he) R X rv λh' tk N R' X'=>hQ ρ h' tk N R' X')
theorem SemB.nil:SemB c ec nl d [] λl=>pure (l,.next):=by
 intro A env l ρ st l' fl st1 s Q E he hA R X h0 hQ
 refine bc λhno=>?_;refine E02 (Prod.mk.inj (mpure h0)) λe q965=>?_;clear he hA h0;subst q965
 refine E02 (Prod.mk.inj e) λq972 q973=>?_;clear e;subst q972;subst q973
 refine hno ?_;exact wpAny_execs_nil (hQ ρ s.heap s.toks _ .refl R X .next)
noncomputable def sq(f g:Loc→M (Loc×Fl)):Loc→M (Loc×Fl):=λl=>do
 let r ←f l
 match r.2 with
 |.next=>g r.1
 |fl=>pure (r.1,fl)
theorem SemB.cons{b:Stmt}{bs:List Stmt}{f g:Loc→M (Loc×Fl)}(C:c.Ok)(h₁:SemS c ec nl d b f)(h₂:SemB c ec nl d bs g):SemB c ec nl d (b::bs) (sq f g):=by
 intro A env l ρ st l' fl st' s Q E he hA R X h0 hQ
 refine E22 (mbind h0) λy9135 st₁ hf hr=>?_;obtain⟨l₁,fl₁⟩:=y9135
 refine wpAny_execs_cons (h₁ A env l ρ st l₁ fl₁ st₁ s _ E he hA R X hf λρ₁ h₁' tk₁ fl' N₁ R₁ X₁ r₁=>?_)
 clear C h₁ X h0 hf;refine bc λhno=>?_;cases r₁ with
 |next=>
  refine hno ?_;exact h₂ A env l₁ ρ₁ st₁ l' fl st' {s with heap:=h₁',toks:=tk₁} Q E he hA R₁ X₁ hr λρ₂ h₂' tk₂ fl' N₂ R₂ X₂ r₂=>hQ ρ₂ h₂' tk₂ fl' (N₁.trans R R₁ N₂ λ_ q=>.inl q) R₂ X₂ r₂
 |brk=>
  refine E02 (Prod.mk.inj (mpure hr)) λe q9177=>?_;clear h₂ he hA R hr;subst q9177
  refine E02 (Prod.mk.inj e) λq9184 q9185=>?_;clear e;subst q9184;subst q9185
  refine hno ?_;exact hQ ρ₁ h₁' tk₁ _ N₁ R₁ X₁ .brk
 |cont=>
  refine E02 (Prod.mk.inj (mpure hr)) λe q9205=>?_;clear h₂ he hA R hr;subst q9205
  refine E02 (Prod.mk.inj e) λq9212 q9213=>?_;clear e;subst q9212;subst q9213
  refine hno ?_;exact hQ ρ₁ h₁' tk₁ _ N₁ R₁ X₁ .cont
 |ret rv=>
  refine E02 (Prod.mk.inj (mpure hr)) λe q9233=>?_;clear h₂ he hA R hr;subst q9233
  refine E02 (Prod.mk.inj e) λq9240 q9241=>?_;clear e;subst q9240;subst q9241
  refine hno ?_;exact hQ ρ₁ h₁' tk₁ _ N₁ R₁ X₁ (.ret rv)
noncomputable def asg(f:Loc→M V)(g:V→Loc→M Loc):Loc→M (Loc×Fl):=λl=>do
 let v ←f l
 let l' ←g v l
 pure (l',.next)
theorem SemS.assign{t e:Expr}{pos:Pos}{f:Loc→M V}{g:V→Loc→M Loc}(C:c.Ok)(h₁:SemE c ec nl d e f)(h₂:SemA c ec nl d FPe t g)(hst:∀env:Env,(assignEach [t] env).map (·.2)=[PySem.assign t env])
 (hsw:∀env,ec env→swapsWithSole [t] e pos.line env=pure false) (hss:∀env,ec env→swappedStores [t] e env=pure none):SemS c ec nl d (.Assign [t] e pos) (asg f g):=by
 intro A env l ρ st l' fl st' s Q E he hA R X h0 hQ
 refine bc λhno=>?_;refine E22 (mbind h0) λv st₁ hf hr=>?_
 clear h0
 refine E22 (mbind hr) λl₁ st₂ hg hr1=>?_
 refine E02 (Prod.mk.inj (mpure hr1)) λe1 e2=>?_
 refine E02 (Prod.mk.inj e1) λq9338 q9339=>?_;clear C hr hr1 e1;subst q9338;subst q9339
 subst e2
 refine hno ?_;refine wpAny_Assign_stores (h₁ A env l ρ st v st₁ s _ E he hA R X hf λρ₁ h₁' tk₁ v' N₁ R₁ X₁ r₁=>?_) (hsw env he) (hss env he)
 rw[hst]
 show wpAny (model prog w) A (PySem.assign t env v') _ _ _
 exact h₂ A env l ρ₁ st₁ v _ _ v' {s with heap:=h₁',toks:=tk₁} _ E he hA R₁ X₁ r₁ hg λρ₂ h₂' tk₂ N₂ R₂ X₂=>hQ ρ₂ h₂' tk₂ _ ((N₁.wide λ_ q=>q.elim).trans R R₁ N₂ λ_ q=>.inl q) R₂ X₂ .next
noncomputable def rtn(f:Loc→M V):Loc→M (Loc×Fl):=λl=>do
 let v ←f l
 pure (l,.ret v)
theorem SemS.ret{e:Expr}{pos:Pos}{f:Loc→M V}(h:SemE c ec nl d e f):SemS c ec nl d (.Return (some e) pos) (rtn f):=by
 intro A env l ρ st l' fl st' s Q E he hA R X h0 hQ
 refine bc λhno=>?_;refine E22 (mbind h0) λv st₁ hf hr=>?_
 refine E02 (Prod.mk.inj (mpure hr)) λe1 q9429=>?_;clear h0 hr;subst q9429
 refine E02 (Prod.mk.inj e1) λq9436 q9437=>?_;clear e1;subst q9436;subst q9437
 refine hno ?_;exact wpAny_Return_some (h A env _ ρ st v _ s _ E he hA R X hf λρ₁ h₁' tk₁ v' N₁ R₁ X₁ r₁=>hQ ρ₁ h₁' tk₁ _ (N₁.wide λ_ q=>q.elim) R₁ X₁ (.ret r₁))
theorem SemS.ret0{pos:Pos}:SemS c ec nl d (.Return none pos) λl=>pure (l,.ret .none):=by
 intro A env l ρ st l' fl st' s Q E he hA R X h0 hQ
 refine bc λhno=>?_;refine E02 (Prod.mk.inj (mpure h0)) λe1 q9464=>?_;clear he hA h0;subst q9464
 refine E02 (Prod.mk.inj e1) λq9471 q9472=>?_;clear e1;subst q9471;subst q9472
 refine hno ?_;exact wpAny_Return_none (hQ ρ s.heap s.toks _ .refl R X (.ret .none))
theorem SemS.cont{pos:Pos}:SemS c ec nl d (.Continue pos) λl=>pure (l,.cont):=by
 intro A env l ρ st l' fl st' s Q E he hA R X h0 hQ
 refine bc λhno=>?_;refine E02 (Prod.mk.inj (mpure h0)) λe1 q9499=>?_;clear he hA h0;subst q9499
 refine E02 (Prod.mk.inj e1) λq9506 q9507=>?_;clear e1;subst q9506;subst q9507
 refine hno ?_;exact wpAny_Continue (hQ ρ s.heap s.toks _ .refl R X .cont)
noncomputable def doE(f:Loc→M V):Loc→M (Loc×Fl):=λl=>do
 let _ ←f l
 pure (l,.next)
theorem SemS.expr{e:Expr}{pos:Pos}{f:Loc→M V}(h:SemE c ec nl d e f)(hi:∀env,ec env→EnvOk env)(hs:∀env,ec env→swapsWith e none pos.line env=pure false):SemS c ec nl d (.Expr e pos) (doE f):=by
 intro A env l ρ st l' fl st' s Q E he hA R X h0 hQ
 refine bc λhno=>?_;refine E22 (mbind h0) λv st₁ hf hr=>?_
 refine E02 (Prod.mk.inj (mpure hr)) λe1 q9562=>?_;clear h0 hr;subst q9562
 refine E02 (Prod.mk.inj e1) λq9569 q9570=>?_;clear e1;subst q9569;subst q9570
 refine hno ?_;exact wpAny_Expr_any (h A env _ ρ st v _ s _ E he hA R X hf λρ₁ h₁' tk₁ v' N₁ R₁ X₁ r₁=>hQ ρ₁ h₁' tk₁ _ (N₁.wide λ_ q=>q.elim) R₁ X₁ .next) (by unfold interactive;rw[(hi env he).1];rfl) (hs env he)
noncomputable def iff'(t:Loc→M Bool)(f g:Loc→M (Loc×Fl)):Loc→M (Loc×Fl):=λl=>do
 let b ←t l
 match b with
 |true=>f l
 |false=>g l
theorem SemS.ite{t:Expr}{b o:List Stmt}{pos:Pos}{ft:Loc→M Bool}{f g:Loc→M (Loc×Fl)}(C:c.Ok)(ht:SemT c ec nl d t ft)(hb:SemB c ec nl d b f)(ho:SemB c ec nl d o g):SemS c ec nl d (.If t b o pos) (iff' ft f g):=by
 intro A env l ρ st l' fl st' s Q E he hA R X h0 hQ
 refine E22 (mbind h0) λv st₁ hf hr=>?_
 refine wpAny_If (ht A env l ρ st v st₁ s _ E he hA R X hf λρ₁ h₁' tk₁ N₁ R₁ X₁=>?_)
 clear C ht X h0 hf;cases v with
 |true=>exact hb A env l ρ₁ st₁ l' fl st' {s with heap:=h₁',toks:=tk₁} Q E he hA R₁ X₁ hr λρ₂ h₂' tk₂ fl' N₂ R₂ X₂ r₂=>hQ ρ₂ h₂' tk₂ fl' ((N₁.wide λ_ q=>q.elim).trans R R₁ N₂ λ_ q=>.inl q) R₂ X₂ r₂
 |false=>exact ho A env l ρ₁ st₁ l' fl st' {s with heap:=h₁',toks:=tk₁} Q E he hA R₁ X₁ hr λρ₂ h₂' tk₂ fl' N₂ R₂ X₂ r₂=>hQ ρ₂ h₂' tk₂ fl' ((N₁.wide λ_ q=>q.elim).trans R R₁ N₂ λ_ q=>.inl q) R₂ X₂ r₂
end
end
section
variable{prog:Program}{w:World}
section
variable{c:Cfg prog w}{ec:Env→Prop}{nl:List Str}{d:Nat}
noncomputable def turn(r:Loc×Fl)(go:Loc→M (Loc×Fl)):M (Loc×Fl):=match r.2 with
 |.next=>go r.1
 |.cont=>go r.1
 |.brk=>pure (r.1,.next)
 |.ret v=>pure (r.1,.ret v)
noncomputable def whileM(ft:Loc→M Bool)(fb:Loc→M (Loc×Fl)):Nat→Loc→M (Loc×Fl)
 |0,_=>fail
 |n+1,l=>do
  let b ←ft l
  match b with
  |false=>pure (l,.next)
  |true=>do
   let r ←fb l
   turn r (whileM ft fb n)
noncomputable def FlI(n:Nat)(ρ:Nat→Addr)(h:Heap)(f:Fl):Flow→Prop
 |.next=>f=.next
 |.brk=>f=.brk
 |.cont=>f=.cont
 |.ret v'=>∃v,f=.ret v∧VR n ρ h v v'
theorem FlR.inv{n:Nat}{ρ:Nat→Addr}{h:Heap}{f:Fl}{f':Flow}(r:FlR n ρ h f f'):FlI n ρ h f f':=FlR.rec (motive:=λf f' _=>FlI n ρ h f f') rfl rfl rfl (λr=>⟨_,rfl,r⟩) r
section
variable{y:Loc×Fl}{k:Loc→M (Loc×Fl)}{st st':St}{l':Loc}{fl:Fl}{r:Option ((Loc×Fl)×St)}{v:V}
theorem turn_next(hr:turn y k st=r)(h:y.2=.next):k y.1 st=r:=by unfold turn at hr;rw[h]at hr;exact hr
theorem turn_cont(hr:turn y k st=r)(h:y.2=.cont):k y.1 st=r:=by unfold turn at hr;rw[h]at hr;exact hr
theorem turn_brk(hr:turn y k st=some ((l',fl),st'))(h:y.2=.brk):l'=y.1∧fl=.next∧st'=st:=by unfold turn at hr;rw[h]at hr;exact pqi (mpure hr)
theorem turn_ret(hr:turn y k st=some ((l',fl),st'))(h:y.2=.ret v):l'=y.1∧fl=.ret v∧st'=st:=by unfold turn at hr;rw[h]at hr;exact pqi (mpure hr)
end
noncomputable def WI(c:Cfg prog w)(env:Env)(nl:List Str)(ρ:Nat→Addr)(st:St)(s:Shared)(g:Nat→Loc→M (Loc×Fl))(r:(Loc×Fl)×St)(n:Nat)(s₁:Shared):Prop:=
 ∃ρ₁ h₁ tk₁ l₁ st₁,s₁={s with heap:=h₁,toks:=tk₁}∧Nx c (FPe env) ρ st s.heap ρ₁ st₁ h₁∧RelH c ρ₁ st₁ h₁∧LocR c env nl l₁ ρ₁ st₁ h₁∧g n l₁ st₁=some r
theorem SemS.while{t:Expr}{b:List Stmt}{pos:Pos}{ft:Loc→M Bool}{fb:Loc→M (Loc×Fl)}(C:c.Ok)(fuel:Nat)(ht:SemT c ec nl d t ft)(hb:SemB c ec nl d b fb):SemS c ec nl d (.While t b [] pos) (whileM ft fb fuel):=by
 intro A env l ρ st l' fl st' s Q E he hA R X h0 hQ
 refine wpAny_While ?_
 refine codeAny_whileLoop (WI c env nl ρ st s (whileM ft fb) ((l',fl),st')) ?_ fuel (I55 ρ s.heap s.toks l st rfl .refl R X h0)
 clear h0 X
 intro n s₁ y;refine E55 y λρ₁ h₁ tk₁ l₁ st₁ e N₁ R₁ X₁ hw=>?_;clear y;subst e
 cases n with
 |zero=>exact nos hw
 |succ n=>
  refine E22 (mbind hw) λv st₂ hf hr=>?_;clear hw
  refine ht A env l₁ ρ₁ st₁ v st₂ {s with heap:=h₁,toks:=tk₁} _ _ he hA R₁ X₁ hf λρ₂ h₂ tk₂ N₂ R₂ X₂=>?_
  have N₂':=N₁.trans R R₁ (N₂.wide (fp':=FPe env) λ_ q=>q.elim) λ_ q=>.inl q
  clear C ht N₁ R₁ X₁ hf N₂;cases v with
  |false=>
   refine E03 (pqi (mpure hr)) λe1 e2 e3=>?_;clear hb he hA R hr;subst e1;subst e2;subst e3
   exact wpAny_execs_nil (hQ ρ₂ h₂ tk₂ _ N₂' R₂ X₂ .next)
  |true=>
   refine E22 (mbind hr) λy st₃ hb' hr1=>?_;clear hr
   refine hb A env l₁ ρ₂ st₂ y.1 y.2 st₃ {s with heap:=h₂,toks:=tk₂} _ _ he hA R₂ X₂ hb' λρ₃ h₃ tk₃ fl' N₃ R₃ X₃ r₃=>?_
   have N₃':=N₂'.trans R R₂ N₃ λ_ q=>.inl q
   clear hb he hA R R₂ X₂ N₂' hb' N₃
   cases fl' with
   |next=>exact⟨n,Nat.lt_succ_self n,I55 ρ₃ h₃ tk₃ y.1 st₃ rfl N₃' R₃ X₃ (turn_next hr1 r₃.inv)⟩
   |cont=>exact⟨n,Nat.lt_succ_self n,I55 ρ₃ h₃ tk₃ y.1 st₃ rfl N₃' R₃ X₃ (turn_cont hr1 r₃.inv)⟩
   |brk=>exact E03 (turn_brk hr1 r₃.inv) λe1 e2 e3=>by rw[e1,e2,e3]at hQ;exact hQ ρ₃ h₃ tk₃ _ N₃' R₃ X₃ .next
   |ret v'=>exact E12 r₃.inv λv q r=>E03 (turn_ret hr1 q) λe1 e2 e3=>by rw[e1,e2,e3]at hQ;exact hQ ρ₃ h₃ tk₃ _ N₃' R₃ X₃ (.ret r)
section
variable{y:Loc×Fl}{k:Loc→M (Loc×Fl)}{st st':St}{l':Loc}{fl:Fl}{r:Option ((Loc×Fl)×St)}{v:V}
end
theorem LocR.side{env:Env}{nl:List Str}{l:Loc}{ρ:Nat→Addr}{st:St}{h h':Heap}(X:LocR c env nl l ρ st h)(T:Tr st.n ρ h st.n ρ h')(hk:∀b o,FPe env b→h.get? b=some o→h'.get? b=some o):LocR c env nl l ρ st h':=by
 refine⟨X.nd,λi v e=>?_,?_,λx a ha=>?_,X.low,X.lowc,X.sep,X.sepc,X.clc,X.inj⟩
 ·refine E23 (X.var i v e) λx v' hx hv r=>?_
  refine I23 x v' hx ?_ (r.tr T)
  rcases hv with⟨hkd,m,hn,hm⟩|⟨hkd,a,ha,hx⟩
  ·exact .inl ⟨hkd,m,Ns.of_get hn λo e=>hk _ o (.inl rfl) e,hm⟩
  ·exact .inr ⟨hkd,a,ha,Cell.of_get hx λo e=>hk _ o (.inr ⟨x,ha⟩) e⟩
 ·obtain⟨m,hn⟩:=X.lns;exact⟨m,Ns.of_get hn λo e=>hk _ o (.inl rfl) e⟩
 ·obtain⟨v,hx⟩:=X.cel x a ha;exact⟨v,Cell.of_get hx λo e=>hk _ o (.inr ⟨x,ha⟩) e⟩
theorem Nx.tail{fp fI:Addr→Prop}{ρ ρ':Nat→Addr}{st st':St}{h h' h'':Heap}(N:Nx c fp ρ st h ρ' st' h')(T:Tr st'.n ρ' h' st'.n ρ' h'')(hk:∀b o,¬fI b→h'.get? b=some o→h''.get? b=some o)(fr:∀b,fI b→h.get? b=none):Nx c fp ρ st h ρ' st' h'':=by
 have nf:∀b o,h.get? b=some o→¬fI b:=λb o e z=>by exact nn (fr b z) e
 exact⟨N.tr.trans T,λb o e q1 q2 q3=>hk b o (nf b o e) (N.un b o e q1 q2 q3),N.new,N.newF,λb o e=>let⟨o',e'⟩:=N.th b o e;⟨o',hk b o' (nf b o e) e'⟩⟩
structure Iter (c:Cfg prog w) (n0:Nat) (ρ0:Nat→Addr) (h0:Heap) (tg:Expr) (it:Value) (fI dp:Addr→Prop) (S:Nat→Heap→Prop) (item:Nat→St→Option (Option V)):Prop where
 mov:∀i h b,S i h→fI b→Mov h b
 ats:∀i h b,S i h→fI b∨dp b→∃o,h.get? b=some o
 keep:∀i h h',S i h→(∀b o,fI b∨dp b→h.get? b=some o→h'.get? b=some o)→S i h'
 self:∀(A:Around) (i:Nat) (s:Shared) (Q:Value→Shared→Prop) (E:Value→Shared→Prop),S i s.heap→Q it s→wpAny (model prog w) A (pyIter it) Q E s
 next:∀(A:Around) (i:Nat) (ρ:Nat→Addr) (st:St) (r:Option V) (s:Shared) (Q:Option Value→Shared→Prop) (E:Value→Shared→Prop),A.handled=none→RelH c ρ st s.heap→Tr n0 ρ0 h0 st.n ρ s.heap→S i s.heap→item i st=some r→
  (match r with
    |none=>∀h',(∀b o,¬fI b→s.heap.get? b=some o→h'.get? b=some o)→Q none {s with heap:=h'}
    |some v=>∀h' tk v',(∀b o,¬fI b→s.heap.get? b=some o→h'.get? b=some o)→(∀b o,s.heap.get? b=some o→∃o',h'.get? b=some o')→VR st.n ρ h' v v'→
      (∀(A:Around) (s':Shared) (Q':Unit→Shared→Prop) (E':Value→Shared→Prop),s'.heap=h'→
        (∀h'',S (i+1) h''→(∀b o,¬fI b→h'.get? b=some o→h''.get? b=some o)→(∀b o,h'.get? b=some o→∃o',h''.get? b=some o')→VR st.n ρ h'' v v'→Q' () {s' with heap:=h''})→
        wpAny (model prog w) A (letOwnedTupleGo tg it v') Q' E' s')→Q (some v') {s with heap:=h',toks:=tk})→
  wpAny (model prog w) A (pyNext it) Q E s
noncomputable def forM'(item:Nat→St→Option (Option V))(ga:V→Loc→M Loc)(fb:Loc→M (Loc×Fl)):Nat→Nat→Loc→M (Loc×Fl)
 |0,_,_=>fail
 |n+1,i,l=>λst=>match item i st with
  |none=>none
  |some none=>some ((l,.next),st)
  |some (some v)=>(do
   let l' ←ga v l
   let r ←fb l'
   turn r (forM' item ga fb n (i+1))) st
noncomputable def KI(c:Cfg prog w)(env:Env)(nl:List Str)(l:Loc)(ρ:Nat→Addr)(st:St)(s:Shared)(tg:Expr)(item:Nat→St→Option (Option V))(st':St)(Q:Value→Shared→Prop):Prop:=
 ∀ρ' h' tk it fI dp S,Nx c NoA ρ st s.heap ρ' st' h'→RelH c ρ' st' h'→LocR c env nl l ρ' st' h'→Iter c st'.n ρ' h' tg it fI dp S item→S 0 h'→
   (∀b,fI b→s.heap.get? b=none)→(∀b,fI b→∀k,Has k st'.H∨Has k st'.F→ρ' k≠b)→(∀b,dp b→¬c.TB b∧(∀k,Has k st'.H→ρ' k≠b)∧¬FPe env b)→Q it {s with heap:=h',toks:=tk}
noncomputable def SemI(c:Cfg prog w)(ec:Env→Prop)(nl:List Str)(d:Nat)(tg e:Expr)(g:Loc→M (Nat→St→Option (Option V))):Prop:=
 ∀(A:Around) (env:Env) (l:Loc) (ρ:Nat→Addr) (st:St) (item:Nat→St→Option (Option V)) (st':St) (s:Shared) (Q:Value→Shared→Prop) (E:Value→Shared→Prop),
  ec env→AOk d A→RelH c ρ st s.heap→LocR c env nl l ρ st s.heap→g l st=some (item,st')→
  (KI c env nl l ρ st s tg item st' Q)→
  wpAny (model prog w) A (eval e env) (λx s₁=>wpAny (model prog w) A (pyIter x) Q E s₁) E s
noncomputable def forS(g:Loc→M (Nat→St→Option (Option V)))(ga:V→Loc→M Loc)(fb:Loc→M (Loc×Fl))(fuel:Nat):Loc→M (Loc×Fl):=λl=>do
 let item ←g l
 forM' item ga fb fuel 0 l
noncomputable def FI{β:Type}(c:Cfg prog w)(fp:Addr→Prop)(env:Env)(nl:List Str)(ρ:Nat→Addr)(st:St)(h:Heap)(s:Shared)(S:Nat→Heap→Prop)(g:Nat→Nat→Loc→M β)(r:β×St)(n:Nat)(s₁:Shared):Prop:=
 ∃i ρ₁ h₁ tk₁ l₁ st₁,s₁={s with heap:=h₁,toks:=tk₁}∧Nx c fp ρ st h ρ₁ st₁ h₁∧RelH c ρ₁ st₁ h₁∧LocR c env nl l₁ ρ₁ st₁ h₁∧S i h₁∧g n i l₁ st₁=some r
theorem SemS.for{t e:Expr}{b:List Stmt}{pos:Pos}{g:Loc→M (Nat→St→Option (Option V))}{ga:V→Loc→M Loc}{fb:Loc→M (Loc×Fl)}(C:c.Ok)(fuel:Nat)
 (hi:SemI c ec nl d t e g) (ha:SemA c ec nl d FPe t ga) (hb:SemB c ec nl d b fb) (hs:∀env x,foldedSetIterable e env x=pure x):SemS c ec nl d (.For t e b [] pos) (forS g ga fb fuel):=by
 intro A env l ρ st l' fl st' s Q E he hA R X h0 hQ
 refine E22 (mbind h0) λitem st₀ hg hr=>?_
 clear h0
 refine wpAny_For (hi A env l ρ st item st₀ s _ _ he hA R X hg λρ₀ h₀ tk₀ it fI dp S N₀ R₀ X₀ I hS fr nm hdp=>?_) (hs env)
 clear hg hi hs
 have fE:∀b,fI b→¬FPe env b:=λb hb q=>q.elim (λq=>E42 X.lns λm o es ep e _=>nn (q▸fr b hb) e) λq=>E11 q λx q=>E22 (X.cel x b q) λv o e _=>nn (fr b hb) e
 clear X
 have fH:∀b,fI b→c.H0.get? b=none:=λb hb=>R.fresh (fr b hb)
 refine codeAny_forLoop_any (FI c (λb=>FPe env b∨fI b) env nl ρ₀ st₀ h₀ s S (forM' item ga fb) ((l',fl),st')) ?_ fuel (I66 0 ρ₀ h₀ tk₀ l st₀ rfl .refl R₀ X₀ hS hr)
 clear hr X₀
 have done:∀ {ρ₂ st₂ h₂},Nx c (λb=>FPe env b∨fI b) ρ₀ st₀ h₀ ρ₂ st₂ h₂→Nx c (FPe env) ρ st s.heap ρ₂ st₂ h₂:=λN₂=>
  (N₀.wide λ_ q=>q.elim).trans R R₀ N₂ λb q=>q.imp id λz=>fr b z
 clear N₀ R
 intro n s₁ y;refine E66 y λi ρ₁ h₁ tk₁ l₁ st₁ e N₁ R₁ X₁ hS₁ hw=>?_;clear y;subst e
 have nI:∀b,fI b→∀k,Has k st₁.H∨Has k st₁.F→ρ₁ k≠b:=λb hb k hk=>E11 (I.ats 0 h₀ b hS (.inl hb)) λo e=>N₁.offF R₀ e (λk hk=>nm b hb k hk) k hk
 have nD:∀b,dp b→∀k,Has k st₁.H→ρ₁ k≠b:=λb hb k hk=>E11 (I.ats 0 h₀ b hS (.inr hb)) λo e=>N₁.off R₀ e (λk hk=>(hdp b hb).2.1 k hk) k hk
 clear nm hS
 have mv:∀h₂,(∀b o,¬fI b→h₁.get? b=some o→h₂.get? b=some o)→
  RelH c ρ₁ st₁ h₂∧LocR c env nl l₁ ρ₁ st₁ h₂∧Tr st₁.n ρ₁ h₁ st₁.n ρ₁ h₂:=λh₂ hk=>
  E02 (R₁.but C (fp:=fI) hk (λb hb=>⟨fH b hb,λ_ _=>I.mov i h₁ b hS₁ hb⟩) λk q z=>nI _ z k q rfl) λR₂ T₂=>⟨R₂,X₁.side (T₂ _) λb o q e=>hk b o (λz=>fE b z q) e,T₂ _⟩
 clear X₁
 cases n with
 |zero=>exact nos hw
 |succ n=>
  have hw':(match item i st₁ with
   |none=>none
   |some none=>some ((l₁,Fl.next),st₁)
   |some (some v)=>(do
    let l' ←ga v l₁
    let r ←fb l'
    turn r (forM' item ga fb n (i+1))) st₁)=some ((l',fl),st'):=hw
  clear hw
  cases hit:item i st₁ with
  |none=>rw[hit]at hw';exact nos hw'
  |some r=>
   rw[hit]at hw'
   refine I.next A i ρ₁ st₁ r _ _ _ hA.1 R₁ N₁.tr hS₁ hit ?_
   clear hit hS₁
   cases r with
   |none=>
    intro h₂ hk
    refine E03 (mv h₂ hk) λR₂ X₂ T₂=>?_
    refine E03 (sqi hw') λe1 e2 e3=>?_;clear C ha hb he hA R₀ I hdp fE fH R₁ nI nD mv hw';subst e1;subst e2;subst e3
    exact wpAny_execs_nil (hQ ρ₁ h₂ tk₁ _ ((done N₁).tail T₂ hk fr) R₂ X₂ .next)
   |some v=>
    intro h₂ tk₂ v' hk ht hv go
    refine go A {s with heap:=h₂,toks:=tk₂} _ _ rfl λh₃ hS₃ hk₃ ht₃ hv₃=>?_
    have hk':∀b o,¬fI b→h₁.get? b=some o→h₃.get? b=some o:=λb o z e=>hk₃ b o z (hk b o z e)
    have ht':∀b o,h₁.get? b=some o→∃o',h₃.get? b=some o':=λb o e=>E11 (ht b o e) λo' e'=>ht₃ b o' e'
    clear hk ht hv go hk₃ ht₃
    refine E03 (mv h₃ hk') λR₃ X₃ T₃=>?_
    have N₃:Nx c (λb=>FPe env b∨fI b) ρ₀ st₀ h₀ ρ₁ st₁ h₃:=N₁.trans R₀ R₁ (.but (c:=c) (fp:=fI) R₁ hk' T₃ ht') λ_ q=>.inl (.inr q)
    clear mv hk' ht' T₃ N₁ R₁
    refine E22 (mbind hw') λl₄ st₄ hga hr1=>?_
    clear hw'
    refine E22 (mbind hr1) λy st₅ hfb hr2=>?_
    clear hr1
    refine ha A env l₁ ρ₁ st₁ v l₄ st₄ v' {s with heap:=h₃,toks:=tk₂} _ _ he hA R₃ X₃ hv₃ hga λρ₄ h₄ tk₄ N₄ R₄ X₄=>?_
    clear hv₃ hga X₃ ha
    refine hb A env l₄ ρ₄ st₄ y.1 y.2 st₅ {s with heap:=h₄,toks:=tk₄} _ _ he hA R₄ X₄ hfb λρ₅ h₅ tk₅ fl' N₅ R₅ X₅ r₅=>?_
    have N45:Nx c (FPe env) ρ₁ st₁ h₃ ρ₅ st₅ h₅:=N₄.trans R₃ R₄ N₅ λ_ q=>.inl q
    clear hb hfb X₄ R₄ N₄ N₅
    have N₅':Nx c (λb=>FPe env b∨fI b) ρ₀ st₀ h₀ ρ₅ st₅ h₅:=N₃.trans R₀ R₃ N45 λ_ q=>.inl (.inl q)
    have hS₅:S (i+1) h₅:=I.keep (i+1) h₃ h₅ hS₃ λb o hb e=>hb.elim (λhb=>N45.un b o e (λk hk=>nI b hb k (.inl hk)) (fE b hb) (RelH.ntb C (fH b hb))) λhb=>N45.un b o e (λk hk=>nD b hb k hk) (hdp b hb).2.2 (hdp b hb).1
    clear C he hA R₀ I fr hdp fE fH nI nD hS₃ R₃ N₃ N45
    cases fl' with
    |next=>exact⟨n,Nat.lt_succ_self n,I66 (i+1) ρ₅ h₅ tk₅ y.1 st₅ rfl N₅' R₅ X₅ hS₅ (turn_next hr2 r₅.inv)⟩
    |cont=>exact⟨n,Nat.lt_succ_self n,I66 (i+1) ρ₅ h₅ tk₅ y.1 st₅ rfl N₅' R₅ X₅ hS₅ (turn_cont hr2 r₅.inv)⟩
    |brk=>exact E03 (turn_brk hr2 r₅.inv) λe1 e2 e3=>by rw[e1,e2,e3]at hQ;exact hQ ρ₅ h₅ tk₅ _ (done N₅') R₅ X₅ .next
    |ret v'=>exact E12 r₅.inv λv q r=>E03 (turn_ret hr2 q) λe1 e2 e3=>by rw[e1,e2,e3]at hQ;exact hQ ρ₅ h₅ tk₅ _ (done N₅') R₅ X₅ (.ret r)
end
end
section
variable{prog:Program}{w:World}
section
variable{c:Cfg prog w}{ec:Env→Prop}{nl:List Str}{d:Nat}
theorem go_plain{A:Around}{s:Shared}{Q:Unit→Shared→Prop}{E:Value→Shared→Prop}{tg:Expr}{I:Addr}{v:Value}{o:Obj}{T:String}(ho:s.heap.get? I=some o)(hc:o.cls=.type T)
 (hT:(["enumerate","zip","dict_itemiterator","dict_reverseitemiterator","odict_iterator","itertools.zip_longest","itertools.pairwise"].contains T)=false) (hQ:Q () s):
 wpAny (model prog w) A (letOwnedTupleGo tg (.ref I) v) Q E s:=by
 have key:∀a,wpAny (model prog w) A (do
  let o ←load I
  match o.cls,o.data with
  |.type n,.fields vs=>
   if ["enumerate","zip","dict_itemiterator","dict_reverseitemiterator","odict_iterator","itertools.zip_longest","itertools.pairwise"].contains n&&vs[0]? ==some (rawInt a) then
    rule "for.unpacks-the-owned-tuple"
    updateField I 0 .none
  |_,_=>pure ()) Q E s:=by
  intro a
  refine wpAny_bind (wpAny_load ho ?_)
  rw[hc]
  cases o.data with
  |fields vs=>dsimp only;rw[hT,Bool.false_and,if_neg Bool.false_ne_true];exact wpAny_pure hQ
  |_=>exact wpAny_pure hQ
 clear ho hc hT
 cases tg with
 |Tuple=>cases v with
  |ref a=>exact key a
  |_=>exact wpAny_pure hQ
 |List=>cases v with
  |ref a=>exact key a
  |_=>exact wpAny_pure hQ
 |_=>exact wpAny_pure hQ
theorem mov_at{h:Heap}{I:Addr}{o:Obj}{T:String}(e:h.get? I=some o)(hc:o.cls=.type T)(h1:T≠"tuple")(h2:T≠"code"):Mov h I:=
 I13 o e (.inr ⟨hc▸Value.noConfusion,λz=>h2 (Value.type.inj (hc.symm.trans z))⟩) (.inl λz=>h1 (Value.type.inj (hc.symm.trans z)))
theorem tr_but{n:Nat}{ρ:Nat→Addr}{h h':Heap}{I:Addr}{o:Obj}{T:String}(hs:Heap.SameBut I h h')(e:h.get? I=some o)(hc:o.cls=.type T)(h1:T≠"tuple"):Tr n ρ h n ρ h':=
 ⟨Nat.le_refl _,λ_ _=>rfl,λy items q=>E12 q λo2 e2 q2=>⟨o2,(hs.2 y λz=>by subst z;have:=oin e e2;subst this;exact h1 (Value.type.inj (hc.symm.trans q2.1))).trans e2,q2⟩⟩
theorem there_of_same{h h':Heap}{a:Addr}(hs:Heap.SameBut a h h'){o:Obj}(e:h'.get? a=some o):∀b q,h.get? b=some q→∃q',h'.get? b=some q':=λb q e'=>by
 by_cases z:b=a
 ·exact⟨o,z▸e⟩
 ·exact⟨q,(hs.2 b z).trans e'⟩
theorem it_item{ρ:Nat→Addr}{st:St}{s:Shared}{tg:Expr}{I:Addr}{T:String}{S1:Heap→Prop}{x:V}{x':Value}{h':Heap}{tk:Tok}{Q:Option Value→Shared→Prop}{oI o':Obj}
 (eI:s.heap.get? I=some oI) (cI:oI.cls=.type T) (e':h'.get? I=some o') (hc':o'.cls=.type T) (hs:Heap.SameBut I s.heap h') (hS':S1 h') (rx:VR st.n ρ s.heap x x')
 (hQ:∀h' tk v',(∀b o,¬b=I→s.heap.get? b=some o→h'.get? b=some o)→(∀b o,s.heap.get? b=some o→∃o',h'.get? b=some o')→VR st.n ρ h' x v'→
   (∀(A:Around) (s':Shared) (Q':Unit→Shared→Prop) (E':Value→Shared→Prop),s'.heap=h'→
     (∀h'',S1 h''→(∀b o,¬b=I→h'.get? b=some o→h''.get? b=some o)→(∀b o,h'.get? b=some o→∃o',h''.get? b=some o')→VR st.n ρ h'' x v'→Q' () {s' with heap:=h''})→
     wpAny (model prog w) A (letOwnedTupleGo tg (.ref I) v') Q' E' s')→Q (some v') {s with heap:=h',toks:=tk})
 (hT:(["enumerate","zip","dict_itemiterator","dict_reverseitemiterator","odict_iterator","itertools.zip_longest","itertools.pairwise"].contains T)=false:=by decide) (h1:T≠"tuple":=by decide):Q (some x') {s with heap:=h',toks:=tk}:=by
 have rx':=rx.tr (tr_but hs eI cI h1)
 refine hQ h' tk x' (λb o hb e=>(hs.2 b hb).trans e) (there_of_same hs e') rx' λA' s' Q' E' hs' hq=>?_
 refine go_plain (o:=o') (T:=T) (hs'▸e') hc' hT ?_
 have:=hq h' hS' (λ_ _ _ e=>e) (λb o e=>⟨o,e⟩) rx'
 rw[←hs']at this;exact this
noncomputable abbrev NoB:Addr→Prop:=λ_=>False
noncomputable def itL(SR:List (Nat×AO))(v:V):Nat→St→Option (Option V):=λi st=>match rdV SR v st with
 |some (.list xs)=>some xs[i]?
 |_=>none
theorem VRs.getA{n:Nat}{ρ:Nat→Addr}{h:Heap}{xs:List V}{its:Array Value}(r:VRs n ρ h xs its.toList){i:Nat}:match xs[i]? with
 |some v=>∃v',its[i]? =some v'∧VR n ρ h v v'
 |none=>its[i]? =none:=by
 rw[←Array.getElem?_toList]
 cases e:xs[i]? with
 |some v=>exact r.get e
 |none=>exact List.getElem?_eq_none_iff.mpr (r.length▸List.getElem?_eq_none_iff.mp e)
theorem itL_inv{SR:List (Nat×AO)}{v:V}{i:Nat}{st:St}{r:Option V}(e:itL SR v i st=some r):∃xs,rdV SR v st=some (.list xs)∧xs[i]? =r:=by
 unfold itL at e
 cases q:rdV SR v st with
 |none=>rw[q]at e;exact nos e
 |some o=>
  rw[q]at e
  cases o with
  |list xs=>exact⟨xs,rfl,sin e⟩
  |_=>exact nos e
theorem Iter.list(S:SRok c){n0:Nat}{ρ0:Nat→Addr}{h0:Heap}{tg:Expr}{I a:Addr}{v:V}(r:VR n0 ρ0 h0 v (.ref a)):Iter c n0 ρ0 h0 tg (.ref I) (λb=>b=I) NoB (λi h=>h.IsListIter I a i) (itL c.SR v):=by
 refine⟨λi h b hS hb=>?_,λi h b hS hb=>?_,λi h h' hS hk=>?_,λA i s Q E hS hq=>wpAny_pyIter_listiter hS hq,λA i ρ st r' s Q E hh R T hS hi hQ=>?_⟩
 ·rw[hb];exact E13 hS λo e hc _=>mov_at e hc (by decide) (by decide)
 ·rw[hb.resolve_right id];exact E12 hS λo e _=>⟨o,e⟩
 ·exact E12 hS λo e q=>I12 o (hk I o (.inl rfl) e) q
 ·refine E12 (itL_inv hi) λxs q hx=>?_;clear hi;subst hx
  refine E12 (R.rdV S (r.tr T) q) λa' e' y=>E22 y λits m hl rs=>?_
  rw[←Value.ref.inj e']at hl
  have hL:s.heap.IsList a its:=⟨_,hl,rfl,m,rfl⟩
  have g:=rs.getA (i:=i)
  clear S r T R q y e' hl rs
  cases hx:xs[i]? with
  |none=>
   rw[hx]at g hQ
   exact wpAny_pyNext_list_end hh hS hL g λh' he=>hQ h' λb o hb e=>he b o hb e
  |some x=>
   rw[hx]at g hQ
   refine E12 g λx' hx' rx=>?_;clear g hx
   refine wpAny_pyNext_list_item hS hL hx' λh' hS' hs=>?_
   exact E13 hS λoI eI hcI _=>E13 hS' λo' e' hc' _=>it_item (S1:=λh=>h.IsListIter I a (i+1)) (tk:=s.toks) eI hcI e' hc' hs hS' rx hQ
noncomputable def itT(vs:List V):Nat→St→Option (Option V):=λi _=>some vs[i]?
theorem Iter.tup{n0:Nat}{ρ0:Nat→Addr}{h0:Heap}{tg:Expr}{I a:Addr}{vs:List V}(r:VR n0 ρ0 h0 (.tup vs) (.ref a)):Iter c n0 ρ0 h0 tg (.ref I) (λb=>b=I) NoB (λi h=>h.IsTupleIter I a i) (itT vs):=by
 refine⟨λi h b hS hb=>?_,λi h b hS hb=>?_,λi h h' hS hk=>?_,λA i s Q E hS hq=>wpAny_pyIter_tupleiter hS hq,λA i ρ st r' s Q E hh R T hS hi hQ=>?_⟩
 ·rw[hb];exact E13 hS λo e hc _=>mov_at e hc (by decide) (by decide)
 ·rw[hb.resolve_right id];exact E12 hS λo e _=>⟨o,e⟩
 ·exact E12 hS λo e q=>I12 o (hk I o (.inl rfl) e) q
 ·have hi':vs[i]? =r':=Option.some.inj hi
  clear hi;subst hi'
  refine E23 (r.tr T).inv λa' its e' ht rs=>?_
  rw[←Value.ref.inj e']at ht
  have g:=rs.getA (i:=i)
  clear r T R e' rs
  cases hx:vs[i]? with
  |none=>
   rw[hx]at g hQ
   exact wpAny_pyNext_tuple_end hh hS ht g λh' he=>hQ h' λb o hb e=>he b o hb e
  |some x=>
   rw[hx]at g hQ
   refine E12 g λx' hx' rx=>?_;clear g hx
   refine wpAny_pyNext_tuple_item hS ht hx' λh' hS' hs=>?_
   exact E13 hS λoI eI hcI _=>E13 hS' λo' e' hc' _=>it_item (S1:=λh=>h.IsTupleIter I a (i+1)) (tk:=s.toks) eI hcI e' hc' hs hS' rx hQ
noncomputable def itR(a:Int)(n:Nat):Nat→St→Option (Option V):=λi _=>match Nat.ble (i+1) n with
 |true=>some (some (.int (a+i)))
 |false=>some none
theorem Iter.range{n0:Nat}{ρ0:Nat→Addr}{h0:Heap}{tg:Expr}{I:Addr}{a:Int}{n:Nat}:Iter c n0 ρ0 h0 tg (.ref I) (λb=>b=I) NoB (λi h=>IsRangeIter h I (a+i) (n-i) 1) (itR a n):=by
 refine⟨λi h b hS hb=>?_,λi h b hS hb=>?_,λi h h' hS hk=>?_,λA i s Q E hS hq=>wpAny_pyIter_rangeiter hS hq,λA i ρ st r' s Q E hh R T hS hi hQ=>?_⟩
 ·rw[hb];exact mov_at hS rfl (by decide) (by decide)
 ·rw[hb.resolve_right id];exact⟨_,hS⟩
 ·exact hk I _ (.inl rfl) hS
 ·unfold itR at hi
  cases hb:Nat.ble (i+1) n with
  |false=>
   rw[hb]at hi;have hi:=sin hi;subst hi
   have:¬i+1≤n:=λz=>by rw[Nat.ble_eq_true_of_le z]at hb;exact ntf hb
   exact wpAny_pyNext_range_end hh hS (by lia) λh' he=>hQ h' λb o hb e=>he b o hb e
  |true=>
   rw[hb]at hi;have hi:=sin hi;subst hi
   have hlt:=Nat.le_of_ble_eq_true hb
   refine wpAny_pyNext_range_item hS (by lia) λh' hS' hs=>?_
   have e1:a+(i:Int)+1=a+((i+1:Nat):Int):=by lia
   have e2:(n:Int)-i-1=(n:Int)-((i+1:Nat):Int):=by lia
   exact it_item (T:="range_iterator") (S1:=λh=>IsRangeIter h I (a+((i+1:Nat):Int)) (n-((i+1:Nat):Int)) 1) hS rfl hS' rfl hs (by rw[←e1,←e2];exact hS') (.int _ _) hQ
end
end
section
variable{prog:Program}{w:World}
section
variable{A:Around}{E:Value→Shared→Prop}{s:Shared}
theorem iter_dict{d:Addr}{o:Obj}{es:Array DictEntry}{ep:Nat}{Q:Value→Shared→Prop}(hd:(d==sysModules)=false)(ho:s.heap.get? d=some o)(hc:o.cls=.type "dict")(hdat:o.data=.dict es ep)
 (hQ:Q (.ref s.heap.objs.size) {s with heap:=s.heap.push {cls:=.type "dict_keyiterator",data:=.fields #[.ref d,.int 0 0,.int es.size 0,.int ep 0]}}):
 wpAny (model prog w) A (pyIter (.ref d)) Q E s:=by
 have hT:s.TypeIs (.ref d) "dict":=⟨o,ho,hc⟩
 refine wpAny_pyIter_slot hT F.slot_dict_iter (wpAny_call_entry F.slot_dict_iter hT F.entry_dict_iter ?_ (F.args_dict_iter_1 _))
 unfold Builtin.«dict.__iter__» Builtin.Dict.dictSlotNone
 refine wpAny_bind (wpAny_bind (wpAny_notOrdered_dict hT (wpAny_pure ?_)))
 show wpAny _ _ (Builtin.Dict.showsAll d >>= _) _ _ s
 unfold Builtin.Dict.showsAll
 rw[hd,if_neg Bool.false_ne_true]
 refine wpAny_bind (wpAny_pure (wpAny_bind (wpAny_dictEntries ho hdat (wpAny_bind (wpAny_dictEpoch ho hdat ?_)))))
 exact wpAny_bind (wpAny_newObj_type (wpAny_pure ⟨_,rfl,"dict_keyiterator",_,⟨_,Heap.get?_push_size _ rfl,rfl⟩,F.slot_dict_keyiterator_next.lookup,by simpa[rawInt]using hQ⟩))
theorem next_dict{it d:Addr}{i ep:Nat}{o:Obj}{es:Array DictEntry}{e:DictEntry}{Q:Option Value→Shared→Prop}(hit:s.heap.IsKeyIter it d i es.size ep)
 (hod:s.heap.get? d=some o) (hdd:o.data=.dict es ep) (hx:es[i]? =some e)
 (hQ:∀h',h'.IsKeyIter it d (i+1) es.size ep→Heap.SameBut it s.heap h'→Q (some e.key) {s with heap:=h'}):
 wpAny (model prog w) A (pyNext (.ref it)) Q E s:=by
 refine E13 (id hit) λoi hoi hci hdi=>?_
 unfold pyNext
 refine wpAny_bind (wpAny_attempt (wpAny_callSpecial?_slot (name:=Str.ofString "__next__") hit.typeIs F.slot_dict_keyiterator_next
  (wpAny_call_entry F.slot_dict_keyiterator_next hit.typeIs F.entry_dict_keyiterator_next ?_ (F.args_dict_keyiterator_next_1 _))))
 refine wpAny_bind (wpAny_pure (wpAny_bind (wpAny_bind ?_)))
 first|refine wpAny_bind (wpAny_typeNameOfWhole_keyiter hit.typeIs (wpAny_pure ?_))|refine wpAny_bind (wpAny_typeNameOf_keyiter hit.typeIs (wpAny_pure ?_))
 refine wpAny_bind (wpAny_fieldsOf hoi hdi ?_)
 have own:Builtin.Dict_items.ownsTuple "dict_keyiterator"=false:=by decide
 rw[own,if_neg Bool.false_ne_true]
 show wpAny _ _ (if (Value.ref d==Value.none)=true then _ else _) _ _ s
 rw[if_neg (show ¬((Value.ref d==Value.none)=true)from Bool.false_ne_true)]
 refine wpAny_bind (wpAny_pure (wpAny_bind (wpAny_dictEntries hod hdd ?_)))
 rw[if_neg (by simp)]
 refine wpAny_bind (wpAny_pure (wpAny_bind (wpAny_dictEpoch hod hdd ?_)))
 rw[if_neg (by simp)]
 refine wpAny_pure ?_
 dsimp only
 rw[if_neg (show ¬((i:Int)<0)from by lia),Int.toNat_natCast,hx]
 dsimp only
 refine wpAny_bind ?_
 first|refine wpAny_bind (wpAny_typeNameOfWhole_keyiter hit.typeIs (wpAny_pure ?_))|refine wpAny_bind (wpAny_typeNameOf_keyiter hit.typeIs (wpAny_pure ?_))
 refine wpAny_bind (wpAny_isOneOf_keyiter hit.typeIs ?_)
 show wpAny _ _ (setField (.ref it) 1 (rawInt ((i:Int)+1)) >>= _) _ _ s
 refine wpAny_bind (wpAny_setField hoi hdi (by simp) ?_)
 have hit':(s.heap.update it (Obj.mapFields (·.setIfInBounds 1 (rawInt ((i:Int)+1))))).IsKeyIter it d (i+1) es.size ep:=
  ⟨_,Heap.get?_update_self _ hoi (Obj.isFreed_of_fields (Obj.data_mapFields hdi _)),(Obj.cls_mapFields ..).trans hci,by rw[Obj.data_mapFields hdi];simp[rawInt]⟩
 refine wpAny_bind (wpAny_holding (wpAny_bind (wpAny_isOneOf_keyiter (s:={s with heap:=s.heap.update it (Obj.mapFields (·.setIfInBounds 1 (rawInt ((i:Int)+1))))}) hit'.typeIs ?_)))
 exact wpAny_pure (wpAny_pure ⟨_,rfl,wpAny_pure (hQ _ hit' (Heap.SameBut.update ..))⟩)
theorem end_dict{it d:Addr}{i ep:Nat}{o:Obj}{es:Array DictEntry}{Q:Option Value→Shared→Prop}(hh:A.handled=none)(hit:s.heap.IsKeyIter it d i es.size ep)
 (hod:s.heap.get? d=some o) (hdd:o.data=.dict es ep) (hx:es[i]? =none)
 (hQ:∀h',Heap.ExtBut it s.heap h'→Q none {s with heap:=h'}):wpAny (model prog w) A (pyNext (.ref it)) Q E s:=by
 refine E13 (id hit) λoi hoi hci hdi=>?_
 unfold pyNext
 refine wpAny_bind (wpAny_attempt (wpAny_callSpecial?_slot (name:=Str.ofString "__next__") hit.typeIs F.slot_dict_keyiterator_next
  (wpAny_call_entry F.slot_dict_keyiterator_next hit.typeIs F.entry_dict_keyiterator_next ?_ (F.args_dict_keyiterator_next_1 _))))
 refine wpAny_bind (wpAny_pure (wpAny_bind (wpAny_bind ?_)))
 first|refine wpAny_bind (wpAny_typeNameOfWhole_keyiter hit.typeIs (wpAny_pure ?_))|refine wpAny_bind (wpAny_typeNameOf_keyiter hit.typeIs (wpAny_pure ?_))
 refine wpAny_bind (wpAny_fieldsOf hoi hdi ?_)
 have own:Builtin.Dict_items.ownsTuple "dict_keyiterator"=false:=by decide
 rw[own,if_neg Bool.false_ne_true]
 show wpAny _ _ (if (Value.ref d==Value.none)=true then _ else _) _ _ s
 rw[if_neg (show ¬((Value.ref d==Value.none)=true)from Bool.false_ne_true)]
 refine wpAny_bind (wpAny_pure (wpAny_bind (wpAny_dictEntries hod hdd ?_)))
 rw[if_neg (by simp)]
 refine wpAny_bind (wpAny_pure (wpAny_bind (wpAny_dictEpoch hod hdd ?_)))
 rw[if_neg (by simp)]
 refine wpAny_pure ?_
 dsimp only
 rw[if_neg (show ¬((i:Int)<0)from by lia),Int.toNat_natCast,hx]
 dsimp only
 refine wpAny_bind ?_
 first|refine wpAny_bind (wpAny_typeNameOfWhole_keyiter hit.typeIs (wpAny_pure ?_))|refine wpAny_bind (wpAny_typeNameOf_keyiter hit.typeIs (wpAny_pure ?_))
 show wpAny _ _ (setField (.ref it) 0 .none >>= _) _ _ s
 refine wpAny_bind (wpAny_setField hoi hdi (by simp) ?_)
 show wpAny _ _ (newExc (.type "StopIteration") [] >>= _) _ _ _
 refine wpAny_bind ?_
 simp only[newExc,newTuple]
 refine wpAny_bind (wpAny_newObj_type ?_ (by size_fits))
 refine wpAny_bind (m:=firstArgMember _ _) (wpAny_of_eq (a:=Value.none) (by first|rfl|(rw[firstArgMember];rfl)) ?_)
 refine wpAny_newObj_type ?_ (by size_fits)
 rw[raiseNew]
 refine wpAny_bind (wpAny_handled ?_)
 rw[show A.in1.handled=none from hh]
 refine wpAny_bind (wpAny_pure (wpAny_throw ?_))
 refine wpAny_bind (wpAny_isInstance (T:="StopIteration") (b:=true) ⟨_,Heap.get?_push_size _ rfl,rfl⟩ isSubtype_stop ?_)
 exact wpAny_pure (hQ _ (((Heap.SameBut.update ..).extBut.push _).push _))
end
section
variable{c:Cfg prog w}{ec:Env→Prop}{nl:List Str}{d:Nat}
noncomputable def keyV:AO→Option (List V)
 |.idt es=>some (es.map λp=>.int p.1)
 |.sd es=>some (es.map λp=>.str p.1)
 |.td es=>some (es.map λp=>.tup (p.1.map .int))
 |_=>none
noncomputable def rdF(SR:List (Nat×AO))(v:V)(st:St):Option AO:=match v with
 |.ref k=>match lk k st.H with
  |some _=>none
  |none=>lk k st.F
 |.adr a=>lk a SR
 |_=>none
noncomputable def itD(SR:List (Nat×AO))(v:V):Nat→St→Option (Option V):=λi st=>match rdF SR v st with
 |some o=>match keyV o with
  |some ks=>some ks[i]?
  |none=>none
 |none=>none
theorem rdF_rdV{SR:List (Nat×AO)}{v:V}{st:St}{o:AO}(e:rdF SR v st=some o):rdV SR v st=some o:=by
 cases v <;> first|exact e|cases e|skip
 rename_i k
 show rdO k st=some o
 have e':(match lk k st.H with|some _=>none|none=>lk k st.F)=some o:=e
 unfold rdO
 cases q:lk k st.H with
 |none=>rw[q]at e';exact e'
 |some _=>rw[q]at e';exact nos e'
theorem KVR.keys{K:Type}{n:Nat}{ρ:Nat→Addr}{h:Heap}{es:List (K×V)}{r:List (K×Value)}(x:KVR n ρ h es r):r.map (·.1)=es.map (·.1):=by
 induction x with
 |nil=>rfl
 |cons _ _ ih=>simp[ih]
theorem pairs_keyAt{K:Type}[DecidableEq K]{knd:KeyKind prog w K}{es:List DictEntry}{kvs:List (K×Value)}(x:Pairs knd es kvs):es.length=kvs.length∧∀(i:Nat) (e:DictEntry),es[i]? =some e→∃k,(kvs.map (·.1))[i]? =some k∧knd.is k e.key=true:=by
 induction x with
 |nil=>exact⟨rfl,λi e he=>by simp at he⟩
 |cons h1 h2 _ ih=>
  refine⟨by simp[ih.1],λi e he=>?_⟩
  cases i with
  |zero=>simp at he;subst he;exact I12 _ rfl h1
  |succ i=>simp at he;simpa using ih.2 i e he
theorem keys_at{n:Nat}{ρ:Nat→Addr}{h:Heap}{a:Addr}{o:AO}{ks:List V}(x:OAt prog w n ρ h a o)(hk:keyV o=some ks):
 (a==sysModules)=false∧∃od es ep,h.get? a=some od∧od.cls=.type "dict"∧od.data=.dict es ep∧es.size=ks.length∧∀(i:Nat) (e:DictEntry),es[i]? =some e→∃v,ks[i]? =some v∧VR n ρ h v e.key:=by
 have map:∀ {K:Type} (g:K→V) (es:List (K×V)) (i:Nat) (k:K),(es.map (·.1))[i]? =some k→(es.map λp=>g p.1)[i]? =some (g k):=by
  intro K g es i k e
  rw[List.getElem?_map]at e ⊢
  cases z:es[i]? with
  |none=>rw[z]at e;exact nos e
  |some p=>rw[z]at e;obtain rfl:=sin e;rfl
 refine bc λhno=>?_;cases o with
 |list _=>exact nos hk
 |inst _ _=>exact nos hk
 |ns _=>exact nos hk
 |sd es₀=>
  refine E02 x λy y972=>?_;clear x;refine E12 y972 λkvs y973 v=>?_;clear y972;refine E36 y973 λod es ep e hx hd _ hp _=>?_;clear y973
  obtain rfl:=sin hk
  have q:=pairs_keyAt hp
  have hl:=congrArg List.length v.keys
  simp at hl
  refine hno ?_;refine⟨y,od,es,ep,e,hx.1,hd,by have:=q.1;simp at this ⊢;lia,λi en he=>?_⟩
  refine E12 (q.2 i en (by simpa using he)) λk hk1 hi=>?_
  refine E11 (Value.isStrOf_shape hi) λt ht=>?_
  have hk':(List.map (·.1) (kvs.map λp=>(p.1.cps.toList,p.2)))[i]? =some k.cps.toList:=by
   rw[List.map_map]
   rw[List.getElem?_map]at hk1 ⊢
   cases z:kvs[i]? with
   |none=>rw[z]at hk1;exact nos hk1
   |some p=>rw[z]at hk1;clear map y v e hx hd hp hk q hl he hi ht z;obtain rfl:=sin hk1;rfl
  rw[v.keys]at hk'
  exact I12 (.str k.cps.toList) (map _ _ _ _ hk') (ht▸ .str k t rfl)
 |idt es₀=>
  refine E02 x λy y9191=>?_;clear x;refine E12 y9191 λkvs y9192 v=>?_;clear y9191;refine E36 y9192 λod es ep e hx hd _ hp _=>?_;clear y9192
  obtain rfl:=sin hk
  have q:=pairs_keyAt hp
  have hl:=congrArg List.length v.keys
  simp at hl
  refine hno ?_;refine⟨y,od,es,ep,e,hx.1,hd,by have:=q.1;simp at this ⊢;lia,λi en he=>?_⟩
  refine E12 (q.2 i en (by simpa using he)) λk hk2 hi=>?_
  refine E11 (Value.isInt_shape hi) λt ht=>?_
  rw[v.keys]at hk2
  exact I12 (.int k) (map _ _ _ _ hk2) (ht▸ .int k t)
 |td es₀=>
  refine E02 x λy y9268=>?_;clear x;refine E12 y9268 λxs y9269 v=>?_;clear y9268;refine E36 y9269 λod es ep e hx hd he hi _=>?_;clear y9269
  obtain rfl:=sin hk
  have hl:=congrArg List.length v.keys
  simp at hl
  have hes:=congrArg List.length he
  simp at hes
  refine hno ?_;refine⟨y,od,es,ep,e,hx.1,hd,by simp;lia,λi en q=>?_⟩
  rw[←Array.getElem?_toList,he,List.getElem?_map]at q
  cases z:xs[i]? with
  |none=>rw[z]at q;exact nos q
  |some p=>
   rw[z]at q;obtain rfl:=sin q
   have hk:(List.map (·.1) (xs.map λx=>(x.1,x.2.2)))[i]? =some p.1:=by
    rw[List.map_map,List.getElem?_map,z];rfl
   rw[v.keys]at hk
   refine E34 (hi p (List.mem_of_getElem? z)) λob its m ho hc hdd hit=>?_
   refine I12 (.tup (p.1.map .int)) (map (λl=>.tup (l.map .int)) _ _ _ hk) (.tup ⟨ob,ho,hc,m,hdd⟩ ?_)
   ·clear hdd hk z
    generalize its.toList=l at hit
    generalize p.1=ks at hit
    induction hit with
    |nil=>exact .nil
    |cons q _ ih=>
     refine E11 (Value.isInt_shape q) λt ht=>?_
     exact .cons (ht▸ .int _ t) ih
end
end
section
variable{prog:Program}{w:World}
section
variable{c:Cfg prog w}{ec:Env→Prop}{nl:List Str}{d:Nat}
theorem itD_inv{SR:List (Nat×AO)}{v:V}{i:Nat}{st:St}{r:Option V}(e:itD SR v i st=some r):∃o ks,rdF SR v st=some o∧keyV o=some ks∧ks[i]? =r:=by
 unfold itD at e
 cases q:rdF SR v st with
 |none=>rw[q]at e;exact nos e
 |some o=>
  rw[q]at e
  dsimp only at e
  cases q2:keyV o with
  |none=>rw[q2]at e;exact nos e
  |some ks=>rw[q2]at e;exact I23 o ks rfl q2 (sin e)
theorem Iter.dict(S:SRok c){n0:Nat}{ρ0:Nat→Addr}{h0:Heap}{tg:Expr}{I a:Addr}{v:V}{od:Obj}{es:Array DictEntry}{ep:Nat}(hcd:od.cls=.type "dict")(hdd:od.data=.dict es ep)(r:VR n0 ρ0 h0 v (.ref a)):
 Iter c n0 ρ0 h0 tg (.ref I) (λb=>b=I) (λb=>b=a) (λi h=>h.IsKeyIter I a i es.size ep∧h.get? a=some od) (itD c.SR v):=by
 refine⟨λi h b hS hb=>?_,λi h b hS hb=>?_,λi h h' hS hk=>?_,λA i s Q E hS hq=>wpAny_pyIter_keyiter hS.1 hq,λA i ρ st r' s Q E hh R T hS hi hQ=>?_⟩
 ·rw[hb];exact E13 hS.1 λo e hc _=>mov_at e hc (by decide) (by decide)
 ·rcases hb with hb|hb
  ·rw[hb];exact E12 hS.1 λo e _=>⟨o,e⟩
  ·rw[hb];exact⟨od,hS.2⟩
 ·exact⟨E12 hS.1 λo e q=>I12 o (hk I o (.inl rfl) e) q,hk a od (.inr rfl) hS.2⟩
 ·refine E02 hS λhS1 hS2=>?_;clear hS
  have hne:a≠I:=λz=>E13 hS1 λo e hc _=>by
   have:=oin (z▸hS2) e
   rw[this]at hcd
   exact absurd (Value.type.inj (hcd.symm.trans hc)) (by decide)
  refine E23 (itD_inv hi) λob ks q q' hk=>?_;clear hi hcd;subst hk
  refine E12 (R.rdV S (r.tr T) (rdF_rdV q)) λa' e' x=>?_
  have e':=Value.ref.inj e'
  rw[←e']at x
  refine E02 (keys_at x q') λ_ y=>E35 y λod' es' ep' e1 _ e3 e4 e5=>?_
  rw[←oin hS2 e1,hdd]at e3
  rw[←(Data.dict.inj e3).1]at e4 e5
  clear S r T R q q' x y e1 e3 e'
  cases hx:es[i]? with
  |none=>
   rw[show ks[i]? =none from List.getElem?_eq_none_iff.mpr (Nat.le_trans (Nat.le_of_eq e4.symm) (Array.getElem?_eq_none_iff.mp hx))]at hQ
   exact end_dict hh hS1 hS2 hdd hx λh' he=>hQ h' λb o hb e=>he b o hb e
  |some en=>
   refine E12 (e5 i en hx) λx' hx' rx=>?_
   rw[hx']at hQ
   clear e5 hx'
   refine next_dict hS1 hS2 hdd hx λh' hS' hs=>?_
   exact E13 hS1 λoI eI hcI _=>E13 hS' λo' e' hc' _=>it_item (S1:=λh=>h.IsKeyIter I a (i+1) es.size ep∧h.get? a=some od) (tk:=s.toks) eI hcI e' hc' hs ⟨hS',(hs.2 a hne).trans hS2⟩ rx hQ
theorem semI_push(C:c.Ok){env:Env}{l:Loc}{ρ:Nat→Addr}{st:St}{s:Shared}{tg:Expr}{oI:Obj}{dp:Addr→Prop}{S:Nat→Heap→Prop}{item:Nat→St→Option (Option V)}{Q:Value→Shared→Prop}{ρ₁:Nat→Addr}{h₁:Heap}{st₁:St}{tk:Tok}
 (R:RelH c ρ st s.heap) (N₁:Nx c NoA ρ st s.heap ρ₁ st₁ h₁) (R₁:RelH c ρ₁ st₁ h₁) (X₁:LocR c env nl l ρ₁ st₁ h₁)
 (I:Iter c st₁.n ρ₁ (h₁.push oI) tg (.ref h₁.objs.size) (λb=>b=h₁.objs.size) dp S item) (hS:S 0 (h₁.push oI)) (hdp:∀b,dp b→¬c.TB b∧(∀k,Has k st₁.H→ρ₁ k≠b)∧¬FPe env b)
 (hQ:KI c env nl l ρ st s tg item st₁ Q):
 Q (.ref h₁.objs.size) {s with heap:=h₁.push oI,toks:=tk}:=by
 have k:∀b o,h₁.get? b=some o→(h₁.push oI).get? b=some o:=λb o e=>Heap.get?_push_of_some _ e
 have N₂:Nx c NoA ρ₁ st₁ h₁ ρ₁ st₁ (h₁.push oI):=.keep k
 have R₂:=R₁.keep C k
 refine hQ ρ₁ _ tk _ _ dp S (N₁.trans R R₁ N₂ λ_ q=>q.elim) R₂ (X₁.nx C R₁ R₂ N₂) I hS ?_ ?_ hdp
 ·intro b q81;subst q81
  cases e:s.heap.get? h₁.objs.size with
  |none=>rfl
  |some o=>refine E11 (N₁.th _ _ e) λo' e'=>?_;exact nn fresh_size e'
 ·intro b q81 k hk z;subst q81
  have:∃ob,h₁.get? (ρ₁ k)=some ob:=by
   rcases hk with⟨q,e⟩|⟨q,e⟩
   ·refine E12 ((R₁.obj k q e).ex) λob e' _=>?_;exact I11 ob e'
   ·refine E12 ((R₁.fro k q e).ex) λob e' _=>?_;exact I11 ob e'
  refine E11 this λob e'=>?_;clear this
  rw[z]at e';exact nn fresh_size e'
noncomputable def pickO(SR:List (Nat×AO))(v:V)(o:AO)(st st':St):Option ((Nat→St→Option (Option V))×St):=match o with
 |.list _=>some (itL SR v,st)
 |o=>match keyV o with
  |some _=>some (itD SR v,st')
  |none=>none
noncomputable def pickI(SR:List (Nat×AO)):V→M (Nat→St→Option (Option V))
 |.tup vs=>pure (itT vs)
 |.ref k=>λst=>match lk k st.H with
  |some o=>pickO SR (.ref k) o st (st.freeze k o)
  |none=>match lk k st.F with
   |some o=>pickO SR (.ref k) o st st
   |none=>none
 |.adr a=>λst=>match lk a SR with
  |some o=>pickO SR (.adr a) o st st
  |none=>none
 |_=>fail
theorem pickO_inv{SR:List (Nat×AO)}{v:V}{o:AO}{st st':St}{r:(Nat→St→Option (Option V))×St}(e:pickO SR v o st st'=some r):(∃xs,o=.list xs∧r=(itL SR v,st))∨(∃ks,keyV o=some ks∧r=(itD SR v,st')):=by
 unfold pickO at e
 cases o with
 |list xs=>obtain rfl:=sin e;exact .inl ⟨xs,rfl,rfl⟩
 |inst a b=>exact nos e
 |ns es=>exact nos e
 |sd es=>obtain rfl:=sin e;exact .inr ⟨_,rfl,rfl⟩
 |idt es=>obtain rfl:=sin e;exact .inr ⟨_,rfl,rfl⟩
 |td es=>obtain rfl:=sin e;exact .inr ⟨_,rfl,rfl⟩
theorem SemI.val{tg e:Expr}{f:Loc→M V}(C:c.Ok)(S:SRok c)(h:SemE c ec nl d e f):SemI c ec nl d tg e (λl=>do let v ←f l;pickI c.SR v):=by
 intro A env l ρ st item st' s Q E he hA R X h0 hQ
 refine E22 (mbind h0) λv st₁ hf hp=>?_
 refine h A env l ρ st v st₁ s _ E he hA R X hf λρ₁ h₁ tk₁ v' N₁ R₁ X₁ r₁=>?_
 have hlist:∀ {a:Addr} {xs:List V},OAt prog w st₁.n ρ₁ h₁ a (.list xs)→VR st₁.n ρ₁ h₁ v (.ref a)→item=itL c.SR v→st'=st₁→wpAny (model prog w) A (pyIter (.ref a)) Q E {s with heap:=h₁,toks:=tk₁}:=by
  intro a xs y81 r q82 q83;refine E22 y81 λits m hl rs=>?_;clear y81;clear h he hA X h0 hf hp r₁ rs;subst q82;subst q83
  refine wpAny_pyIter_list (s:={s with heap:=h₁,toks:=tk₁}) ⟨_,hl,rfl,m,rfl⟩ ?_
  have T:Tr st'.n ρ₁ h₁ st'.n ρ₁ (h₁.push {cls:=.type "list_iterator",data:=.fields #[.ref a,.int 0 0]}):=⟨Nat.le_refl _,λ_ _=>rfl,λb items x=>x.push _⟩
  exact semI_push (s:=s) (tk:=tk₁) C R N₁ R₁ X₁ (Iter.list S (r.tr T)) ⟨_,Heap.get?_push_size _ rfl,rfl,rfl⟩ (λ_ q=>q.elim) hQ
 have hdict:∀ {a:Addr} {o:AO} {ks:List V},OAt prog w st₁.n ρ₁ h₁ a o→keyV o=some ks→VR st₁.n ρ₁ h₁ v (.ref a)→item=itD c.SR v→RelH c ρ₁ st' h₁→Nx c NoA ρ₁ st₁ h₁ ρ₁ st' h₁→¬c.TB a→(∀k,Has k st'.H→ρ₁ k≠a)→¬FPe env a→
  wpAny (model prog w) A (pyIter (.ref a)) Q E {s with heap:=h₁,toks:=tk₁}:=by
  rintro a o ks x hk r rfl R' N' h1 h2 h3
  obtain⟨hs,od,es,ep,e1,e2,e3,e4,e5⟩:=keys_at x hk
  refine iter_dict (s:={s with heap:=h₁,toks:=tk₁}) hs e1 e2 e3 ?_
  have T:Tr st'.n ρ₁ h₁ st'.n ρ₁ (h₁.push {cls:=.type "dict_keyiterator",data:=.fields #[.ref a,.int 0 0,.int es.size 0,.int ep 0]}):=⟨Nat.le_refl _,λ_ _=>rfl,λb items x=>x.push _⟩
  have X':=X₁.nx C R₁ R' N'
  have N₁':=N₁.trans R R₁ N' λ_ q=>q.elim
  refine semI_push (s:=s) (tk:=tk₁) C R N₁' R' X' (Iter.dict S e2 e3 ((r.tr N'.tr).tr T)) ⟨⟨_,Heap.get?_push_size _ rfl,rfl,rfl⟩,Heap.get?_push_of_some _ e1⟩ ?_ hQ
  rintro b rfl;exact⟨h1,h2,h3⟩
 refine bc λhno=>?_;cases r₁ with
 |tup ht rs=>
  refine E02 (Prod.mk.inj (mpure hp)) λq9967 q9968=>?_;clear S h he hA X h0 hf hp hlist hdict;subst q9967;subst q9968
  refine hno ?_;refine wpAny_pyIter_tuple (s:={s with heap:=h₁,toks:=tk₁}) ht ?_
  rename_i a its
  have T:Tr st'.n ρ₁ h₁ st'.n ρ₁ (h₁.push {cls:=.type "tuple_iterator",data:=.fields #[.ref a,.int 0 0]}):=⟨Nat.le_refl _,λ_ _=>rfl,λb items x=>x.push _⟩
  exact semI_push (s:=s) (tk:=tk₁) C R N₁ R₁ X₁ (Iter.tup ((VR.tup ht rs).tr T)) ⟨_,Heap.get?_push_size _ rfl,rfl,rfl⟩ (λ_ q=>q.elim) hQ
 |ref hk=>
  rename_i k
  have hp':(match lk k st₁.H with
   |some o=>pickO c.SR (.ref k) o st₁ (st₁.freeze k o)
   |none=>match lk k st₁.F with
    |some o=>pickO c.SR (.ref k) o st₁ st₁
    |none=>none)=some (item,st'):=hp
  cases q:lk k st₁.H with
  |some o=>
   rw[q]at hp'
   rcases pickO_inv hp' with⟨xs,rfl,e⟩|⟨ks,hk',e⟩
   ·clear C S h he hA R X h0 hQ N₁ X₁ hf hp hdict hp';refine E02 (Prod.mk.inj e) λq979 q980=>?_;subst q979;subst q980;refine hno ?_;exact hlist (R₁.obj k _ q) (.ref hk) rfl rfl
   ·clear S h he hA R X h0 hQ N₁ hp hlist hp';refine E02 (Prod.mk.inj e) λq986 q987=>?_;subst q986;subst q987
    refine E02 (R₁.freeze (fp:=NoA) C q) λR' N'=>?_
    have hf:Has k (st₁.freeze k o).F:=⟨o,by rw[lk_freeze,if_pos rfl]⟩
    have hh:∀i,Has i (st₁.freeze k o).H→i≠k:=by
     intro i y81 q82;refine E11 y81 λz e6=>?_;clear y81;clear C R₁ X₁ hk q hk' hdict e R' N' hf;clear hf hno;subst q82
     have e':lk i (del i st₁.H)=some z:=e6
     rw[lk_del]at e';exact nn (if_pos rfl) e'
    have X':=X₁.nx C R₁ R' N'
    refine hno ?_;refine hdict (R₁.obj k _ q) hk' (.ref hk) rfl R' N' (R'.ntbF k hf) (λi hi=>R'.inj i k (hh i hi) hi (.inr hf)) ?_
    rintro(z|⟨x,z⟩)
    ·exact X'.sep k (.inr hf) z
    ·exact X'.sepc k (.inr hf) x _ z rfl
  |none=>
   rw[q]at hp'
   dsimp only at hp'
   cases q':lk k st₁.F with
   |none=>rw[q']at hp';exact nos hp'
   |some o=>
    rw[q']at hp'
    rcases pickO_inv hp' with⟨xs,rfl,e⟩|⟨ks,hk',e⟩
    ·clear C S h he hA R X h0 hQ N₁ X₁ hf hp hdict q hp';refine E02 (Prod.mk.inj e) λq9226 q9227=>?_;clear e;subst q9226;subst q9227;refine hno ?_;exact hlist (R₁.fro k _ q') (.ref hk) rfl rfl
    ·clear C S h he hA R X h0 hQ N₁ hp hlist hp';cases e
     have hf:Has k st'.F:=⟨o,q'⟩
     have hh:∀i,Has i st'.H→i≠k:=by
      intro i y81 q82;obtain⟨z,e⟩:=y81;clear hk' R₁ X₁ hk q' hdict hf;clear hno hf;subst q82;rw[q]at e;cases e
     refine hno ?_;refine hdict (R₁.fro k _ q') hk' (.ref hk) rfl R₁ .refl (R₁.ntbF k hf) (λi hi=>R₁.inj i k (hh i hi) hi (.inr hf)) ?_
     rintro(z|⟨x,z⟩)
     ·exact X₁.sep k (.inr hf) z
     ·exact X₁.sepc k (.inr hf) x _ z rfl
 |adr a=>
  have hp':(match lk a c.SR with
   |some o=>pickO c.SR (.adr a) o st₁ st₁
   |none=>none)=some (item,st'):=hp
  cases q:lk a c.SR with
  |none=>rw[q]at hp';exact nos hp'
  |some o=>
   rw[q]at hp'
   refine E02 (S a o q) λy9345 hat=>?_;refine E11 y9345 λob hob=>?_;clear y9345
   rcases pickO_inv hp' with⟨xs,rfl,e⟩|⟨ks,hk',e⟩
   ·clear C S h he hA R X h0 hQ N₁ X₁ hf hp hdict hob hp' q;refine E02 (Prod.mk.inj e) λq9359 q9360=>?_;clear e;subst q9359;subst q9360;refine hno ?_;exact hlist (hat _ _ _ R₁.ks) (.adr a) rfl rfl
   ·clear S h he hA R X hQ N₁ hf hp hlist hp' q;refine E02 (Prod.mk.inj e) λq9366 q9367=>?_;clear e;subst q9366;subst q9367
    have h0:=C.keys a ob hob
    refine hno ?_;refine hdict (hat _ _ _ R₁.ks) hk' (.adr a) rfl R₁ .refl h0.2 (λi hi z=>?_) ?_
    ·have:=R₁.low i hi;rw[z,h0.1]at this;exact nso this
    ·rintro(z|⟨x,z⟩)
     ·have:=X₁.low;rw[←z,h0.1]at this;exact nso this
     ·have:=X₁.lowc x _ z;rw[h0.1]at this;exact nso this
 |none=>exact nos hp
 |bool b=>exact nos hp
 |int i t=>exact nos hp
 |str x t e=>exact nos hp
 |bi x=>exact nos hp
 |ty x=>exact nos hp
end
end
section
variable{prog:Program}{w:World}
section
variable{c:Cfg prog w}{ec:Env→Prop}{nl:List Str}{d:Nat}
theorem call_gen{fe:Expr}{fv:V}{args:List Expr}{pos:Pos}{fs:Loc→M (List V)}(C:c.Ok)(hk:Keep c fv)(hp:plainEs args=true)(hfe:SemE c ec nl d fe λ_=>pure fv)(ha:SemEs c ec nl d args fs)(hx:∃x p,fe=.Name x p)
 {A:Around} {env:Env} {l:Loc} {ρ:Nat→Addr} {st st₁:St} {vs:List V} {s:Shared} {Q:Value→Shared→Prop} {E:Value→Shared→Prop}
 (he:ec env) (hA:AOk d A) (R:RelH c ρ st s.heap) (X:LocR c env nl l ρ st s.heap) (hf:fs l st=some (vs,st₁))
 (hQ:∀ρ' h' tk fv' vs',Nx c NoA ρ st s.heap ρ' st₁ h'→RelH c ρ' st₁ h'→LocR c env nl l ρ' st₁ h'→VR st₁.n ρ' h' fv fv'→VRs st₁.n ρ' h' vs vs'→wpAny (model prog w) A (call fv' vs') Q E {s with heap:=h',toks:=tk}):
 wpAny (model prog w) A (eval (.Call fe args [] pos) env) Q E s:=by
 refine E21 hx λx p q9148=>?_;clear hx;subst q9148
 refine wpAny_Call_NameR (hfe A env l ρ st fv st s _ E he hA R X rfl λρ₁ h₁ tk₁ fv' N₁ R₁ X₁ rf=>?_)
 refine callWith_of (P:=λh=>c.KS.In h∧∃n ρ,VR n ρ h fv fv') (by rw[plain_any hp];rfl) (λh ⟨X,n,ρ,r⟩=>hk n ρ h fv' X r) ?_
 refine evalArgs_sem (plain_any hp) ?_
 refine ha pos A env l ρ₁ st vs st₁ {s with heap:=h₁,toks:=tk₁} _ E he hA R₁ X₁ hf λρ₂ h₂ tk₂ vs' N₂ R₂ X₂ rs=>⟨⟨R₂.ks,_,_,rf.tr N₂.tr⟩,?_⟩
 exact hQ ρ₂ h₂ tk₂ fv' vs' (N₁.trans R R₁ N₂ λ_ q=>q.elim) R₂ X₂ (rf.tr N₂.tr) rs
noncomputable def fitB(a:Int):Bool:=decide (-(2 ^ 62)≤a)&&decide (a<2 ^ 62)
noncomputable def rngI:List V→M (Nat→St→Option (Option V))
 | [.int b]=>λst=>match fitB b with
   |true=>some (itR 0 b.toNat,st)
   |false=>none
 | [.int a,.int b]=>λst=>match fitB a&&fitB b with
   |true=>some (itR a (b-a).toNat,st)
   |false=>none
 |_=>fail
theorem fitB_iff{a:Int}(h:fitB a=true): -(2 ^ 62)≤a∧a<2 ^ 62:=by
 unfold fitB at h
 rw[Bool.and_eq_true]at h
 exact⟨of_decide_eq_true h.1,of_decide_eq_true h.2⟩
theorem rngI_inv{vs:List V}{st:St}{r:(Nat→St→Option (Option V))×St}(e:rngI vs st=some r):
 (∃b,vs=[.int b]∧fitB b=true∧r=(itR 0 b.toNat,st))∨(∃a b,vs=[.int a,.int b]∧fitB a=true∧fitB b=true∧r=(itR a (b-a).toNat,st)):=by
 refine bc λhno=>?_
 generalize h1:vs=l at e
 cases l with
 |nil=>exact nos e
 |cons x l=>cases x with
  |int a=>cases l with
   |nil=>
    have e':(match fitB a with|true=>some (itR 0 a.toNat,st)|false=>none)=some r:=e
    cases q:fitB a with
    |false=>rw[q]at e';exact nos e'
    |true=>rw[q]at e';exact hno (.inl ⟨a,h1,q,sni e'⟩)
   |cons y l=>cases y with
    |int b=>cases l with
     |cons _ _=>exact nos e
     |nil=>
      have e':(match fitB a&&fitB b with|true=>some (itR a (b-a).toNat,st)|false=>none)=some r:=e
      cases q:fitB a&&fitB b with
      |false=>rw[q]at e';exact nos e'
      |true=>rw[q]at e';rw[Bool.and_eq_true]at q;exact hno (.inr ⟨a,b,h1,q.1,q.2,sni e'⟩)
    |_=>exact nos e
  |_=>exact nos e
theorem pyIter_range'{A:Around}{E:Value→Shared→Prop}{s:Shared}{r:Addr}{a b:Int}{t u v:Tok}{Q:Value→Shared→Prop}(hr:IsRange s.heap r a b 1 t u v)(ha:fitB a=true)(hb:fitB b=true)
 (hQ:Q (.ref s.heap.objs.size) {s with heap:=s.heap.push {cls:=.type "range_iterator",data:=.fields #[rawInt a,rawInt ((b-a).toNat:Int),rawInt 1]}}):
 wpAny (model prog w) A (pyIter (.ref r)) Q E s:=by
 have h1:=fitB_iff ha
 have h2:=fitB_iff hb
 refine wpAny_pyIter_range hr (small_one h1.1 h1.2 h2.1 h2.2) ?_
 have e:Builtin.Range.rangeSize a b 1=((b-a).toNat:Int):=by
  rw[rangeSize_one];split <;> lia
 rw[e];exact hQ
theorem SemI.range{tg fe:Expr}{args:List Expr}{pos:Pos}{fs:Loc→M (List V)}(C:c.Ok)(hp:plainEs args=true)(hfe:SemE c ec nl d fe λ_=>pure (.ty "range"))(ha:SemEs c ec nl d args fs)(hx:∃x p,fe=.Name x p):
 SemI c ec nl d tg (.Call fe args [] pos) (λl=>do let vs ←fs l;rngI vs):=by
 intro A env l ρ st item st' s Q E he hA R X h0 hQ
 refine E22 (mbind h0) λvs st₁ hf hr=>?_
 refine call_gen C (Keep.ty (x:="range")) hp hfe ha hx he hA R X hf λρ₁ h₁ tk₁ fv' vs' N₁ R₁ X₁ rf rs=>?_
 clear hp hfe hx he hA X h0 hf ha
 rw[show fv'=.type "range" from rf.inv]
 have fin:∀ {a b:Int} {n:Nat} {t u v:Tok} {tk:Tok},fitB a=true→fitB b=true→n=(b-a).toNat→(item,st')=(itR a n,st₁)→
  wpAny (model prog w) A (pyIter (.ref h₁.objs.size)) Q E {s with heap:=h₁.push {cls:=.type "range",data:=.fields #[.int a t,.int b u,.int 1 v]},toks:=tk}:=by
  intro a b n t u v tk ha hb en e
  rw[(Prod.mk.inj e).1,(Prod.mk.inj e).2]at hQ
  subst en
  clear e hr rs rf
  have k:∀b' o,h₁.get? b'=some o→(h₁.push {cls:=.type "range",data:=.fields #[.int a t,.int b u,.int 1 v]}).get? b'=some o:=λb o e=>Heap.get?_push_of_some _ e
  have N₂:Nx c NoA ρ₁ st₁ h₁ ρ₁ st₁ (h₁.push {cls:=.type "range",data:=.fields #[.int a t,.int b u,.int 1 v]}):=.keep k
  have R₂:=R₁.keep C k
  refine pyIter_range' (s:={s with heap:=h₁.push {cls:=.type "range",data:=.fields #[.int a t,.int b u,.int 1 v]},toks:=tk}) (IsRange.new _ _ _ _ _ _ _) ha hb ?_
  refine semI_push (s:=s) (tk:=tk) (S:=λi h=>IsRangeIter h _ (a+i) ((b-a).toNat-i) 1) C R (N₁.trans R R₁ N₂ λ_ q=>q.elim) R₂ (X₁.nx C R₁ R₂ N₂) Iter.range ?_ (λ_ q=>q.elim) hQ
  have:=Heap.get?_push_size (h₁.push {cls:=.type "range",data:=.fields #[.int a t,.int b u,.int 1 v]}) (o:={cls:=.type "range_iterator",data:=.fields #[rawInt a,rawInt ((b-a).toNat:Int),rawInt 1]}) rfl
  simpa using this
 rcases rngI_inv hr with y|y
 ·refine E13 y λb e hb e2=>?_;clear y hr;subst e
  refine E12 rs.one λx e r=>?_;subst e
  refine E11 r.inv λt e=>?_;rw[e]
  exact call_range_1 (s:={s with heap:=h₁,toks:=tk₁}) (fin (n:=b.toNat) (by decide) hb (by rw[Int.sub_zero]) e2)
 ·refine E24 y λa b e ha hb e2=>?_;clear y hr;subst e
  refine E23 rs.two λx x2 e r r2=>?_;subst e
  refine E11 r.inv λt e=>?_;rw[e]
  refine E11 r2.inv λt e=>?_;rw[e]
  exact call_range_2 (s:={s with heap:=h₁,toks:=tk₁}) (fin ha hb rfl e2)
noncomputable def itE(SR:List (Nat×AO))(v:V):Nat→St→Option (Option V):=λi st=>match rdV SR v st with
 |some (.list xs)=>match xs[i]? with
  |some x=>some (some (.tup [.int i,x]))
  |none=>some none
 |_=>none
theorem itE_inv{SR:List (Nat×AO)}{v:V}{i:Nat}{st:St}{r:Option V}(e:itE SR v i st=some r):∃xs,rdV SR v st=some (.list xs)∧((∃x,xs[i]? =some x∧r=some (.tup [.int i,x]))∨(xs[i]? =none∧r=none)):=by
 unfold itE at e
 cases q:rdV SR v st with
 |none=>rw[q]at e;exact nos e
 |some o=>
  rw[q]at e
  cases o with
  |list xs=>
   dsimp only at e
   refine⟨xs,rfl,?_⟩
   cases q2:xs[i]? with
   |none=>rw[q2]at e;exact .inr ⟨rfl,sni e⟩
   |some x=>rw[q2]at e;exact .inl ⟨x,rfl,sni e⟩
  |_=>exact nos e
theorem Iter.enum(S:SRok c){n0:Nat}{ρ0:Nat→Addr}{h0:Heap}{elts:List Expr}{x1:Nat}{pos:Pos}{e it a:Addr}{v:V}(hne:e≠it)(r:VR n0 ρ0 h0 v (.ref a)):
 Iter c n0 ρ0 h0 (.Tuple elts x1 pos) (.ref e) (λb=>b=e∨b=it) NoB (λi h=>∃old,IsEnum h e it i old∧h.IsListIter it a i) (itE c.SR v):=by
 refine⟨λi h b hS hb=>?_,λi h b hS hb=>?_,λi h h' hS hk=>?_,λA i s Q E hS hq=>E12 hS λ_ h1 _=>wpAny_pyIter_enum h1 hq,λA i ρ st r' s Q E hh R T hS hi hQ=>?_⟩
 ·refine E12 hS λold h1 h2=>hb.elim (λhb=>?_) λhb=>?_
  ·rw[hb];exact mov_at h1 rfl (by decide) (by decide)
  ·rw[hb];exact E13 h2 λo e hc _=>mov_at e hc (by decide) (by decide)
 ·refine E12 hS λold h1 h2=>(hb.resolve_right id).elim (λhb=>?_) λhb=>?_
  ·rw[hb];exact⟨_,h1⟩
  ·rw[hb];exact E12 h2 λo e _=>⟨o,e⟩
 ·exact E12 hS λold h1 h2=>⟨old,hk _ _ (.inl (.inl rfl)) h1,E12 h2 λo e q=>⟨o,hk _ _ (.inl (.inr rfl)) e,q⟩⟩
 ·refine E12 hS λold h1 h2=>?_;clear hS
  refine E12 (itE_inv hi) λxs q hor=>?_;clear hi
  refine E12 (R.rdV S (r.tr T) q) λa' e' y=>E22 y λits m hl rs=>?_
  rw[←Value.ref.inj e']at hl
  have hL:s.heap.IsList a its:=⟨_,hl,rfl,m,rfl⟩
  have g:=rs.getA (i:=i)
  clear S r T R q y e' hl rs
  rcases hor with⟨x,hx,e⟩|⟨hx,e⟩
  ·rw[hx]at g
   subst e
   refine E12 g λx' hx' rx=>?_;clear g hx
   refine wpAny_pyNext_enum_item h1 h2 hL hx' hne λh' he' hit' ht' hz' hk'=>?_
   clear hh hL hx' hz'
   have old':∀b o,s.heap.get? b=some o→b≠s.heap.objs.size:=λb o e z=>nn fresh_size (z▸e)
   have T':Tr st.n ρ s.heap st.n ρ h':=⟨Nat.le_refl _,λ_ _=>rfl,λy items q=>E12 q λo2 e2 q2=>
    have y1:y≠e:=λz=>by subst z;have:=oin h1 e2;subst this;exact absurd (Value.type.inj q2.1) (by decide)
    have y2:y≠it:=λz=>E13 h2 λoI eI hcI _=>by subst z;have:=oin eI e2;subst this;exact absurd (Value.type.inj (hcI.symm.trans q2.1)) (by decide)
    ⟨o2,hk' y o2 y1 y2 e2,q2⟩⟩
   have th:∀b o,s.heap.get? b=some o→∃o',h'.get? b=some o':=λb o q=>by
    by_cases z:b=e
    ·exact I11 _ (z▸he')
    ·by_cases z':b=it
     ·exact E12 hit' λoI' eI' _=>I11 oI' (z'▸eI')
     ·exact I11 o (hk' b o z z' q)
   have rv:VR st.n ρ h' (.tup [.int i,x]) (.ref s.heap.objs.size):=.tup ⟨_,ht',rfl,_,rfl⟩ (.cons (.int _ _) (.cons (rx.tr T') .nil))
   refine hQ h' _ _ (λb o hb e=>hk' b o (λz=>hb (.inl z)) (λz=>hb (.inr z)) e) th rv λA' s' Q' E' hs' hq=>?_
   clear hQ h2 rx ht' hk' T' th;subst hs'
   refine wpAny_letOwnedTupleGo_enum he' λh'' he'' hs''=>?_
   replace hs'':Heap.SameBut e s'.heap h'':=hs''
   exact hq h'' ⟨x',he'',hit'.extBut hs''.extBut (Ne.symm hne)⟩ (λb o hb e=>(hs''.2 b λz=>hb (.inl z)).trans e) (there_of_same hs'' he'') (rv.tr (tr_but hs'' he' rfl (by decide)))
  ·rw[hx]at g
   subst e
   exact wpAny_pyNext_enum_end hh h1 h2 hL g λh' he=>hQ h' λb o hb e=>he b o (λz=>hb (.inr z)) e
end
end
section
variable{prog:Program}{w:World}
noncomputable def EC(SC:Scope)(cn:List Str):Env→Prop:=λenv=>env.scope=SC∧SC.kind=.function∧env.globals=mainGlobals∧env.builtins=builtinsNs∧∀x∈cn,∃a,env.cells.lookup x=some a
theorem EC.ok{SC:Scope}{cn:List Str}{env:Env}(h:EC SC cn env):EnvOk env:=⟨by rw[h.1];exact h.2.1,h.2.2.1,h.2.2.2.1⟩
theorem EC.kind{SC:Scope}{cn:List Str}{env:Env}(h:EC SC cn env)(x:Str):env.kindOf x=SC.names.lookup x:=by unfold Env.kindOf;rw[h.1]
noncomputable def relS(scope SC:Scope):Scope:={scope with names:=scope.names.map λ(n,k)=>if (k== .free&&SC.kind== .function&&SC.names.lookup n==some .cell)then(n,.cell)else(n,k)}
theorem closure_ex{env:Env}(names:List (Str×NameKind))(acc:List (Str×Addr))(hn:∀x,(x,NameKind.free)∈names→∃a,env.cells.lookup x=some a)(ha:∀x a,acc.lookup x=some a→env.cells.lookup x=some a):
 ∃cl,(forIn names acc (λ(x:Str×NameKind) (r:List (Str×Addr))=>if (x.2== .free)=true then do
    let y ←cellOf env x.1
    pure (ForInStep.yield ((x.1,y)::r))else pure (ForInStep.yield r)):Sem (List (Str×Addr)))=pure cl∧(∀x a,cl.lookup x=some a→env.cells.lookup x=some a)∧
  (∀x,((x,NameKind.free)∈names∨∃a,acc.lookup x=some a)→∃a,cl.lookup x=some a):=by
 induction names generalizing acc with
 |nil=>exact⟨acc,rfl,ha,λx hx=>hx.resolve_left List.not_mem_nil⟩
 |cons p r ih=>
  by_cases hk:(p.2==NameKind.free)=true
  ·have hke:p=(p.1,.free):=Prod.ext rfl (by
    cases hq:p.2 with
    |free=>rfl
    |_=>rw[hq]at hk;exact nft hk)
   refine E11 (hn p.1 (List.mem_cons.mpr (.inl hke.symm))) λa hca=>?_
   refine E13 (ih ((p.1,a)::acc) (λx hx=>hn x (List.mem_cons_of_mem _ hx)) λx b hb=>?_) λcl e h1 h2=>?_
   ·rw[List.lookup_cons]at hb
    cases q:x==p.1 with
    |true=>rw[q]at hb;rw[eq_of_beq q,←sin hb];exact hca
    |false=>rw[q]at hb;exact ha x b hb
   refine I13 cl ?_ h1 λx hx=>h2 x ?_
   ·rw[List.forIn_cons,if_pos hk,show cellOf env p.1=pure a by unfold cellOf;rw[hca]]
    exact e
   ·by_cases q:x=p.1
    ·rw[q];exact .inr ⟨a,by rw[List.lookup_cons,beq_self_eq_true]⟩
    ·refine hx.elim (λhx=>(List.mem_cons.mp hx).elim (λz=>absurd (congrArg Prod.fst z) q) .inl) λhx=>E11 hx λb hb=>.inr ⟨b,?_⟩
     rw[List.lookup_cons,beq_false_of_ne q];exact hb
  ·refine E13 (ih acc (λx hx=>hn x (List.mem_cons_of_mem _ hx)) ha) λcl e h1 h2=>?_
   refine I13 cl ?_ h1 λx hx=>h2 x (hx.imp (λhx=>?_) id)
   ·rw[List.forIn_cons,if_neg hk];exact e
   ·exact(List.mem_cons.mp hx).resolve_left λz=>hk (by rw[←z];rfl)
theorem closureFor_ex{scope:Scope}{env:Env}(hn:∀x,(x,NameKind.free)∈scope.names→∃a,env.cells.lookup x=some a):
 ∃cl,closureFor scope env=pure cl∧(∀x a,cl.lookup x=some a→env.cells.lookup x=some a)∧(∀x,(x,NameKind.free)∈scope.names→∃a,cl.lookup x=some a):=by
 refine E13 (closure_ex scope.names [] hn (λx a h=>by simp at h)) λcl e h1 h2=>?_
 refine I13 cl ?_ h1 (λx hx=>h2 x (.inl hx))
 unfold closureFor
 rw[←e]
 rw[bind_pure]
section
variable{A:Around}{E:Value→Shared→Prop}{R:Result→Shared→Prop}{s:Shared}
theorem compLoop_go{elt target iter:Expr}{ifs:List Expr}{scope:Scope}{pos:Pos}{it acc:Value}{env:Env}(I:Nat→Shared→Prop)
 (turn:∀n s,I n s→wpAny (model prog w) A (pyNext it) (λr s₁=>match r with
   |none=>R (.ok .next) s₁
   |some v=>wpAny (model prog w) A (letOwnedTupleGo target it v) (λ_ s₁'=>wpAny (model prog w) A (assign target env v) (λ_ s₂=>
     wpAny (model prog w) A (forIn ifs true λc r=>if r=true then do let ok ←isTrue c env (eval c env);pure (ForInStep.yield ok)else pure (ForInStep.yield r)) (λok s₃=>
      if ok=true then wpAny (model prog w) A (eval elt env) (λx s₄=>
       wpAny (model prog w) A (call (.builtin "list.append") [acc,x]) (λ_ s₅=>∃m,m<n∧I m s₅) (notedBy (model prog w) A env λe s'=>R (.error e) s') s₄) (notedBy (model prog w) A env λe s'=>R (.error e) s') s₃
      else ∃m,m<n∧I m s₃) (notedBy (model prog w) A env λe s'=>R (.error e) s') s₂) (notedBy (model prog w) A env λe s'=>R (.error e) s') s₁') (notedBy (model prog w) A env λe s'=>R (.error e) s') s₁) (notedBy (model prog w) A env λe s'=>R (.error e) s') s)
 (n:Nat) (h:I n s):
 codeAny (model prog w) A (.compLoop (.ListComp elt [⟨target,iter,ifs,0⟩] scope pos) 0 it acc env) R s:=by
 refine codeAny_loop rfl I (λn s hI=>?_) n h
 show wpAny _ A ((compTurn (.ListComp elt [⟨target,iter,ifs,0⟩] scope pos) 0 it acc env).onRaise (λx=>do noteFrame x env;theTreesLotGoes x)) _ _ s
 refine wpAny_noted ?_
 rw[compTurn_list]
 refine wpAny_bind (wpAny_standAt (wpAny_bind (wpAny_mono (turn n s hI) (λr s₁ h₁=>?_) λ_ _ h'=>h')))
 match r,h₁ with
 |none,h₁=>exact wpAny_pure h₁
 |some v,h₁=>
  refine wpAny_bind (wpAny_mono h₁ (λ_ s₁' h₁'=>wpAny_bind (wpAny_mono h₁' (λ_ s₂ h₂=>wpAny_bind (wpAny_mono h₂ (λok s₃ h₃=>?_) λ_ _ h'=>h')) λ_ _ h'=>h')) λ_ _ h'=>h')
  cases ok with
  |false=>exact wpAny_pure ⟨rfl,h₃⟩
  |true=>exact wpAny_bind (wpAny_bind (wpAny_mono h₃ (λx s₄ h₄=>wpAny_bind (wpAny_mono h₄ (λ_ s₅ h₅=>wpAny_pure (wpAny_pure ⟨rfl,h₅⟩)) λ_ _ h'=>h')) λ_ _ h'=>h'))
end
section
variable{c:Cfg prog w}{ec:Env→Prop}{nl:List Str}{d:Nat}
noncomputable def appL(k:Nat)(x:V):M Unit:=λst=>match lk k st.H with
 |some (.list xs)=>match Nat.ble xs.length 100000 with
  |true=>some ((),{st with H:=up k (.list (xs++[x])) st.H})
  |false=>none
 |_=>none
theorem appL_inv{k:Nat}{x:V}{st:St}{r:Unit×St}(e:appL k x st=some r):∃xs,lk k st.H=some (.list xs)∧xs.length≤100000∧r.2={st with H:=up k (.list (xs++[x])) st.H}:=by
 unfold appL at e
 cases q:lk k st.H with
 |none=>rw[q]at e;exact nos e
 |some o=>
  rw[q]at e
  cases o with
  |list xs=>
   dsimp only at e
   cases q':Nat.ble xs.length 100000 with
   |false=>rw[q']at e;exact nos e
   |true=>rw[q']at e;exact I13 xs rfl (Nat.le_of_ble_eq_true q') (congrArg Prod.snd (sni e))
  |_=>exact nos e
theorem app_fits{n:Nat}(h:n≤100000):n+1≤sizeLine:=by rw[sizeLine_eq];lia
theorem append_sem(C:c.Ok){A:Around}{ρ:Nat→Addr}{st st':St}{k:Nat}{x:V}{x':Value}{s:Shared}{Q:Value→Shared→Prop}{E:Value→Shared→Prop}(R:RelH c ρ st s.heap)(rx:VR st.n ρ s.heap x x')(h0:appL k x st=some ((),st'))
 (hQ:∀h',Nx c NoA ρ st s.heap ρ st' h'→RelH c ρ st' h'→Q .none {s with heap:=h'}):wpAny (model prog w) A (call (.builtin "list.append") [.ref (ρ k),x']) Q E s:=by
 refine E13 (appL_inv h0) λxs hk hl e=>?_
 rw[show st'= _ from e]at hQ
 clear e h0
 refine E22 (R.obj k _ hk) λits m ho rs=>?_
 have hz:its.size=xs.length:=rs.length
 refine wpAny_list_append_plain (items:=its) ⟨m,ho⟩ (λh' hl' hs=>?_) (by have:=app_fits hl;lia)
 refine E11 hl' λm' hl'1=>?_
 refine E05 (R.stat C hs (R.low k ⟨_,hk⟩) (R.obj k _ hk).ex) λ_ _ _ _ T=>?_
 have hn:OAt prog w st.n ρ h' (ρ k) (.list (xs++[x])):=⟨its.push x',m',hl'1,by rw[Array.toList_push];exact(rs.tr (T _)).append (.cons (rx.tr (T _)) .nil)⟩
 exact hQ h' (.upd C R hk hs hn) (R.upd C hk hs hn)
noncomputable def SemTs(c:Cfg prog w)(ec:Env→Prop)(nl:List Str)(d:Nat)(ifs:List Expr)(f:Loc→M Bool):Prop:=
 ∀(A:Around) (env:Env) (l:Loc) (ρ:Nat→Addr) (st:St) (v:Bool) (st':St) (s:Shared) (Q:Bool→Shared→Prop) (E:Value→Shared→Prop),
  ec env→AOk d A→RelH c ρ st s.heap→LocR c env nl l ρ st s.heap→f l st=some (v,st')→
  (KT c env nl l ρ st s v st' Q)→
  wpAny (model prog w) A (forIn ifs true λc r=>if r=true then do let ok ←isTrue c env (eval c env);pure (ForInStep.yield ok)else pure (ForInStep.yield r)) Q E s
theorem SemTs.nil:SemTs c ec nl d [] λ_=>pure true:=by
 intro A env l ρ st v st' s Q E he hA R X h0 hQ
 refine bc λhno=>?_;refine E02 (Prod.mk.inj (mpure h0)) λq92 q93=>?_;clear he hA h0;subst q92;subst q93
 refine hno ?_;exact wpAny_tests_nil (hQ ρ s.heap s.toks .refl R X)
theorem SemTs.one{t:Expr}{f:Loc→M Bool}(h:SemT c ec nl d t f):SemTs c ec nl d [t] f:=by
 intro A env l ρ st v st' s Q E he hA R X h0 hQ
 exact wpAny_tests_one (h A env l ρ st v st' s Q E he hA R X h0 hQ)
noncomputable def compLp(item:Nat→St→Option (Option V))(ga:V→Loc→M Loc)(ft:Loc→M Bool)(fe:Loc→M V)(k:Nat):Nat→Nat→Loc→M Unit
 |0,_,_=>fail
 |n+1,i,l=>λst=>match item i st with
  |none=>none
  |some none=>some ((),st)
  |some (some v)=>(do
   let l' ←ga v l
   let b ←ft l'
   match b with
   |true=>do
    let x ←fe l'
    appL k x
    compLp item ga ft fe k n (i+1) l'
   |false=>compLp item ga ft fe k n (i+1) l') st
theorem compLp_sem(C:c.Ok){elt target iter:Expr}{ifs:List Expr}{scope:Scope}{pos:Pos}{item:Nat→St→Option (Option V)}{ga:V→Loc→M Loc}{ft:Loc→M Bool}{fe:Loc→M V}{A:Around}{env:Env}{l:Loc}{ρ:Nat→Addr}{st st':St}{s:Shared}{R:Result→Shared→Prop}
 {it:Value} {fI dp:Addr→Prop} {S:Nat→Heap→Prop} {n0:Nat} {ρ0:Nat→Addr} {h0:Heap} {k fuel:Nat} {a:Addr}
 (ha:SemA c ec nl d FPl target ga) (ht:SemTs c ec nl d ifs ft) (hf:SemE c ec nl d elt fe) (he:ec env) (hA:AOk d A) (R₀:RelH c ρ st s.heap) (X₀:LocR c env nl l ρ st s.heap)
 (I:Iter c n0 ρ0 h0 target it fI dp S item) (T0:Tr n0 ρ0 h0 st.n ρ s.heap) (hS:S 0 s.heap) (hak:ρ k=a) (hk:k<st.n)
 (fE:∀b,fI b→¬FPe env b) (fH:∀b,fI b→c.H0.get? b=none) (nm:∀b,fI b→∀k,Has k st.H∨Has k st.F→ρ k≠b) (hdp:∀b,dp b→¬c.TB b∧(∀k,Has k st.H→ρ k≠b)∧¬FPe env b)
 {ρb:Nat→Addr} {stb:St} {hb:Heap} (Rb:RelH c ρb stb hb) (Nb:Nx c NoA ρb stb hb ρ st s.heap) (fr:∀b,FPl env b∨fI b→hb.get? b=none)
 (hr:compLp item ga ft fe k fuel 0 l st=some ((),st'))
 (hQ:∀ρ' h' tk l',Tr st.n ρ s.heap st'.n ρ' h'→Nx c NoA ρb stb hb ρ' st' h'→RelH c ρ' st' h'→LocR c env nl l' ρ' st' h'→R (.ok .next) {s with heap:=h',toks:=tk}):
 codeAny (model prog w) A (.compLoop (.ListComp elt [⟨target,iter,ifs,0⟩] scope pos) 0 it (.ref a) env) R s:=by
 refine compLoop_go (FI c (λb=>FPl env b∨fI b) env nl ρ st s.heap s S (compLp item ga ft fe k) ((),st')) ?_ fuel (I66 0 ρ s.heap s.toks l st rfl .refl R₀ X₀ hS hr)
 clear hr X₀
 intro n s₁ y;refine E66 y λi ρ₁ h₁ tk₁ l₁ st₁ e N₁ R₁ X₁ hS₁ hw=>?_;clear y;subst e
 have fl:∀b,FPl env b→FPe env b:=λb q=>.inl q
 have nI:∀b,fI b→∀k,Has k st₁.H∨Has k st₁.F→ρ₁ k≠b:=λb hb k hk=>E11 (I.ats 0 s.heap b hS (.inl hb)) λo e=>N₁.offF R₀ e (λk hk=>nm b hb k hk) k hk
 have nD:∀b,dp b→∀k,Has k st₁.H→ρ₁ k≠b:=λb hb k hk=>E11 (I.ats 0 s.heap b hS (.inr hb)) λo e=>N₁.off R₀ e (λk hk=>(hdp b hb).2.1 k hk) k hk
 clear nm hS
 have mv:∀h₂,(∀b o,¬fI b→h₁.get? b=some o→h₂.get? b=some o)→
  RelH c ρ₁ st₁ h₂∧LocR c env nl l₁ ρ₁ st₁ h₂∧Tr st₁.n ρ₁ h₁ st₁.n ρ₁ h₂:=λh₂ hk=>
  E02 (R₁.but C (fp:=fI) hk (λb hb=>⟨fH b hb,λ_ _=>I.mov i h₁ b hS₁ hb⟩) λk q z=>nI _ z k q rfl) λR₂ T₂=>⟨R₂,X₁.side (T₂ _) λb o q e=>hk b o (λz=>fE b z q) e,T₂ _⟩
 clear X₁
 cases n with
 |zero=>exact nos hw
 |succ n=>
  have hw':(match item i st₁ with
   |none=>none
   |some none=>some ((),st₁)
   |some (some v)=>(do
    let l' ←ga v l₁
    let b ←ft l'
    match b with
    |true=>do
     let x ←fe l'
     appL k x
     compLp item ga ft fe k n (i+1) l'
    |false=>compLp item ga ft fe k n (i+1) l') st₁)=some ((),st'):=hw
  clear hw
  cases hit:item i st₁ with
  |none=>rw[hit]at hw';exact nos hw'
  |some r=>
   rw[hit]at hw'
   refine I.next A i ρ₁ st₁ r _ _ _ hA.1 R₁ (T0.trans N₁.tr) hS₁ hit ?_
   clear hit hS₁ T0
   cases r with
   |none=>
    intro h₂ hk₂
    refine E03 (mv h₂ hk₂) λR₂ X₂ T₂=>?_
    rw[←(spi hw').2]at hQ
    exact hQ ρ₁ h₂ tk₁ l₁ (N₁.tr.trans T₂) ((Nb.trans Rb R₀ N₁ λb q=>.inr (fr b q)).tail T₂ hk₂ λb q=>fr b (.inr q)) R₂ X₂
   |some v=>
    clear hQ Nb Rb fr
    intro h₂ tk₂ v' hk₂ ht₂ hv go
    refine go A {s with heap:=h₂,toks:=tk₂} _ _ rfl λh₃ hS₃ hk₃ ht₃ hv₃=>?_
    have hk':∀b o,¬fI b→h₁.get? b=some o→h₃.get? b=some o:=λb o z e=>hk₃ b o z (hk₂ b o z e)
    have ht':∀b o,h₁.get? b=some o→∃o',h₃.get? b=some o':=λb o e=>E11 (ht₂ b o e) λo' e'=>ht₃ b o' e'
    clear hk₂ ht₂ hv go hk₃ ht₃
    refine E03 (mv h₃ hk') λR₃ X₃ T₃=>?_
    have N₃:Nx c (λb=>FPl env b∨fI b) ρ st s.heap ρ₁ st₁ h₃:=N₁.trans R₀ R₁ (.but (c:=c) (fp:=fI) R₁ hk' T₃ ht') λ_ q=>.inl (.inr q)
    clear mv hk' ht' T₃ N₁ R₁
    have keepS:∀ {ρ₆ st₆ h₆},Nx c (FPl env) ρ₁ st₁ h₃ ρ₆ st₆ h₆→S (i+1) h₆:=λ{ρ₆ st₆ h₆} N=>I.keep (i+1) h₃ h₆ hS₃ λb o hb e=>
     hb.elim (λhb=>N.un b o e (λk hk=>nI b hb k (.inl hk)) (λq=>fE b hb (fl b q)) (RelH.ntb C (fH b hb))) λhb=>N.un b o e (λk hk=>nD b hb k hk) (λq=>(hdp b hb).2.2 (fl b q)) (hdp b hb).1
    clear I hS₃ nI nD fE fH hdp fl
    refine E22 (mbind hw') λl₄ st₄ hga hr1=>?_
    clear hw'
    refine E22 (mbind hr1) λb st₅ hft hr2=>?_
    clear hr1
    refine ha A env l₁ ρ₁ st₁ v l₄ st₄ v' {s with heap:=h₃,toks:=tk₂} _ _ he hA R₃ X₃ hv₃ hga λρ₄ h₄ tk₄ N₄ R₄ X₄=>?_
    refine ht A env l₄ ρ₄ st₄ b st₅ {s with heap:=h₄,toks:=tk₄} _ _ he hA R₄ X₄ hft λρ₅ h₅ tk₅ N₅ R₅ X₅=>?_
    have N45:Nx c (FPl env) ρ₁ st₁ h₃ ρ₅ st₅ h₅:=N₄.trans R₃ R₄ N₅ λ_ q=>q.elim
    clear ha ht X₃ hv₃ hga hft R₄ X₄ N₄ N₅
    cases b with
    |false=>
     rw[if_neg Bool.false_ne_true]
     exact⟨n,Nat.lt_succ_self n,I66 (i+1) ρ₅ h₅ tk₅ l₄ st₅ rfl (N₃.trans R₀ R₃ N45 λ_ q=>.inl (.inl q)) R₅ X₅ (keepS N45) hr2⟩
    |true=>
     rw[if_pos rfl]
     refine E22 (mbind hr2) λx st₆ hfe hr3=>?_
     clear hr2
     refine E22 (mbind hr3) λu st₇ hap hr4=>?_
     clear hr3
     refine hf A env l₄ ρ₅ st₅ x st₆ {s with heap:=h₅,toks:=tk₅} _ _ he hA R₅ X₅ hfe λρ₆ h₆ tk₆ x' N₆ R₆ X₆ rx=>?_
     have N36:Nx c (FPl env) ρ₁ st₁ h₃ ρ₆ st₆ h₆:=N45.trans R₃ R₅ N₆ λ_ q=>q.elim
     clear hf N45 N₆ X₅ R₅ hfe
     rw[←show ρ₆ k=a by rw[(N₃.trans R₀ R₃ N36 (fp':=FPl env) λ_ q=>.inl (.inl q)).tr.ext k hk];exact hak]
     refine append_sem (s:={s with heap:=h₆,toks:=tk₆}) C R₆ rx hap λh₇ N₇ R₇=>?_
     have N37:Nx c (FPl env) ρ₁ st₁ h₃ ρ₆ st₇ h₇:=N36.trans R₃ R₆ N₇ λ_ q=>q.elim
     exact⟨n,Nat.lt_succ_self n,I66 (i+1) ρ₆ h₇ tk₆ l₄ st₇ rfl (N₃.trans R₀ R₃ N37 λ_ q=>.inl (.inl q)) R₇ (X₆.nx C R₆ R₇ N₇) (keepS N37) hr4⟩
end
end
section
variable{prog:Program}{w:World}
section
variable{c:Cfg prog w}{ec:Env→Prop}{nl:List Str}{d:Nat}
noncomputable def carry(fr:List (Nat×Nat))(l:Loc):Loc:=fr.filterMap λp=>(lk p.2 l).map λv=>(p.1,v)
theorem lk_mem{α:Type}{k:Nat}{x:α}:∀ {l:List (Nat×α)},lk k l=some x→(k,x)∈l
 | [],h=>by cases h
 |p::r,h=>by
  unfold lk at h
  cases q:Nat.beq p.1 k with
  |true=>rw[q]at h;cases h;have:=Nat.eq_of_beq_eq_true q;subst this;exact List.mem_cons_self
  |false=>rw[q]at h;exact List.mem_cons_of_mem _ (lk_mem h)
theorem carry_inv{fr:List (Nat×Nat)}{l:Loc}{j:Nat}{v:V}(h:lk j (carry fr l)=some v):∃i,(j,i)∈fr∧lk i l=some v:=by
 have:=lk_mem h
 unfold carry at this
 refine E12 (List.mem_filterMap.mp this) λp hp e=>?_
 cases q:lk p.2 l with
 |none=>rw[q]at e;exact nos e
 |some v'=>rw[q]at e;clear h this;refine E02 (spi e) λq9211 q9212=>?_;clear e;subst q9211;subst q9212;exact I12 p.2 hp q
noncomputable def capB(k:Option NameKind):Bool:=match k with
 |some .cell=>true
 |some .free=>true
 |_=>false
noncomputable def frB(nl nl':List Str)(scope SC:Scope)(fr:List (Nat×Nat)):Bool:=fr.all λp=>match nl'[p.1]?,nl[p.2]? with
 |some x,some y=>(x==y)&&capB (SC.names.lookup x)&&capB ((relS scope SC).names.lookup x)&&scope.names.contains (x,NameKind.free)
 |_,_=>false
noncomputable def freeOk(scope:Scope)(cn:List Str):Bool:=scope.names.all λp=>match p.2 with
 |.free=>cn.contains p.1
 |_=>true
noncomputable def freeIn(scope:Scope)(cn':List Str):Bool:=cn'.all λx=>scope.names.contains (x,NameKind.free)
noncomputable def compM(g:Loc→M (Nat→St→Option (Option V)))(fr:List (Nat×Nat))(ga:V→Loc→M Loc)(ft:Loc→M Bool)(fe:Loc→M V)(fuel:Nat):Loc→M V:=λl=>do
 let item ←g l
 λst=>(do
  compLp item ga ft fe st.n fuel 0 (carry fr l)
  pure (V.ref st.n)) (st.add (.list []))
theorem cap_iff{k:Option NameKind}(h:capB k=true):k=some .cell∨k=some .free:=by
 unfold capB at h
 split at h
 ·exact .inl rfl
 ·exact .inr rfl
 ·exact nft h
theorem comp_sem{elt tg iter:Expr}{ifs:List Expr}{scope SC:Scope}{cn cn':List Str}{nl':List Str}{pos:Pos}{g:Loc→M (Nat→St→Option (Option V))}{fr:List (Nat×Nat)}{ga:V→Loc→M Loc}{ft:Loc→M Bool}{fe:Loc→M V}{fuel:Nat}(C:c.Ok)
 {ec:Env→Prop} (hi:SemI c ec nl d tg iter g) (ha:SemA c (EC (relS scope SC) cn') nl' d FPl tg ga) (ht:SemTs c (EC (relS scope SC) cn') nl' d ifs ft) (hf:SemE c (EC (relS scope SC) cn') nl' d elt fe)
 (hnd:nl'.Nodup) (hfr:frB nl nl' scope SC fr=true) (hfo:freeOk scope cn=true) (hfi:freeIn scope cn'=true) (hcell:∀y∈scope.names,y.2≠ .cell) (hkind:scope.kind=.function)
 {A:Around} {env:Env} {l:Loc} {ρ:Nat→Addr} {st st':St} {v:V} {s:Shared} {E:Value→Shared→Prop} {use:Option (Value→Sem Unit)} {Q:Value→Shared→Prop} {cl:List (Str×Addr)}
 (he:EC SC cn env) (he':ec env) (hA:AOk d A) (R:RelH c ρ st s.heap) (X:LocR c env nl l ρ st s.heap) (h0:compM g fr ga ft fe fuel l st=some (v,st'))
 (hcl1:∀x a,cl.lookup x=some a→env.cells.lookup x=some a) (hcl2:∀x,(x,NameKind.free)∈scope.names→∃a,cl.lookup x=some a)
 (hpost:∀ρ' h' tk a D,Nx c NoA ρ st s.heap ρ' st' h'→RelH c ρ' st' h'→LocR c env nl l ρ' st' h'→VR st'.n ρ' h' v (.ref a)→(∃m,h'.Ns D m)→s.heap.get? D=none→c.H0.get? D=none→(∀k,Has k st'.H∨Has k st'.F→ρ' k≠D)→¬FPe env D→
   compPost (model prog w) A E use Q (.ref a) D (.ok .next) {s with heap:=h',toks:=tk}):
 wpAny (model prog w) A (eval iter env) (λx s₁=>wpAny (model prog w) A (pyIter x) (λit s₂=>wpAny (model prog w) A (newList []) (λacc s₃=>
  wpAny (model prog w) A (newFunctionEnv scope env.globals cl [] env.qual none .none (some env)) (λcenv s₄=>
   codeAny (model prog w) A (.compStart (.ListComp elt [⟨tg,iter,ifs,0⟩] scope pos) 0 it acc {cenv with scope:=relabel scope env}) (compPost (model prog w) A E use Q acc cenv.locals) s₄) E s₃) E s₂) E s₁) E s:=by
 refine E22 (mbind h0) λitem st₁ hg hr=>?_
 clear h0
 refine hi A env l ρ st item st₁ s _ E he' hA R X hg λρ₁ h₁ tk₁ it fI dp S N₁ R₁ X₁ I hS fr1 nm hdp=>?_
 refine wpAny_newObj_type (hd:=by size_fits) (wpAny_newFunctionEnv hcell (by intro y hy;simp at hy) (λh₂ hns hsb=>?_) hkind)
 dsimp only at hns hsb ⊢
 refine E03 (list_new C R₁ (xs:=[]) (vs:=[]) .nil) λN₂ R₂ rv=>?_
 have X₂:=X₁.nx C R₁ R₂ N₂
 have e2:put ρ₁ st₁.n h₁.objs.size st₁.n=h₁.objs.size:=if_pos rfl
 revert hns hsb N₂ R₂ X₂ rv e2
 generalize hH2:h₁.push {cls:=.type "list",data:=.seq ([]:List Value).toArray}=H2
 generalize hρ2:put ρ₁ st₁.n h₁.objs.size=ρ₂
 intro hns hsb N₂ R₂ rv X₂ e2
 have k2:∀b o,H2.get? b=some o→h₂.get? b=some o:=λb o e=>hsb.extBut b o (λz=>by rw[z,fresh_size]at e;cases e) (Heap.get?_push_of_some _ e)
 have N₃:Nx c NoA ρ₂ (st₁.add (.list [])) H2 ρ₂ (st₁.add (.list [])) h₂:=.keep k2
 have R₃:=R₂.keep C k2
 have X₃:=X₂.nx C R₂ R₃ N₃
 have N₁₃:Nx c NoA ρ₁ st₁ h₁ ρ₂ (st₁.add (.list [])) h₂:=N₂.trans R₁ R₂ N₃ λ_ q=>q.elim
 have N:Nx c NoA ρ st s.heap ρ₂ (st₁.add (.list [])) h₂:=N₁.trans R R₁ N₁₃ λ_ q=>q.elim
 have frD:s.heap.get? H2.objs.size=none:=by
  cases e:s.heap.get? H2.objs.size with
  |none=>rfl
  |some o=>
   refine E11 ((N₁.trans R R₁ N₂ λ_ q=>q.elim).th _ _ e) λo' e'=>?_
   exact nn fresh_size e'
 have frD1:h₁.get? H2.objs.size=none:=by
  cases e:h₁.get? H2.objs.size with
  |none=>rfl
  |some o=>
   refine E11 (N₂.th _ _ e) λo' e'=>?_
   exact nn fresh_size e'
 have nD:∀k,Has k (st₁.add (.list [])).H∨Has k (st₁.add (.list [])).F→ρ₂ k≠H2.objs.size:=by
  intro k hk z
  have:∃ob,H2.get? (ρ₂ k)=some ob:=by
   rcases hk with⟨q,e⟩|⟨q,e⟩
   ·refine E12 ((R₂.obj k q e).ex) λob e' _=>?_;exact I11 ob e'
   ·refine E12 ((R₂.fro k q e).ex) λob e' _=>?_;exact I11 ob e'
  refine E11 this λob e'=>?_;clear this
  rw[z]at e';exact nn fresh_size e'
 have nE:¬FPe env H2.objs.size:=by
  rintro(z|⟨x,z⟩)
  ·refine E42 X₂.lns λm o es ep e _=>?_;rw[←z]at e;exact nn fresh_size e
  ·refine E22 (X₂.cel x _ z) λu o e _=>?_;exact nn fresh_size e
 have hcn':EC (relS scope SC) cn' (compEnvC scope cl H2.objs.size env):=by
  refine I05 (by rw[←he.1];rfl) hkind he.2.2.1 he.2.2.2.1 (λx hx=>hcl2 x ?_)
  have:=List.all_eq_true.mp hfi x hx
  simpa using this
 have XC:LocR c (compEnvC scope cl H2.objs.size env) nl' (carry fr l) ρ₂ (st₁.add (.list [])) h₂:=by
  refine⟨hnd,λj u hj=>?_,⟨_,hns⟩,λx a hx=>X₃.cel x a (hcl1 x a hx),R₂.fresh fresh_size,λx a hx=>X₃.lowc x a (hcl1 x a hx),nD,λk hk x a hx=>X₃.sepc k hk x a (hcl1 x a hx),λx a hx z=>nE (.inr ⟨x,by have z':a=H2.objs.size:=z;rw[←z'];exact hcl1 x a hx⟩),λx y a hx hy=>X₃.inj x y a (hcl1 x a hx) (hcl1 y a hy)⟩
  refine E12 (carry_inv hj) λi hi' hl=>?_
  have q:=List.all_eq_true.mp hfr (j,i) hi'
  refine E23 (X₃.var i u hl) λy u' hy hv ru=>?_
  dsimp only at q
  rw[hy]at q
  cases hx:nl'[j]? with
  |none=>rw[hx]at q;exact nft q
  |some x=>
   rw[hx]at q
   dsimp only at q
   simp only[Bool.and_eq_true]at q
   refine E02 q λy9911 q4=>?_;clear q;obtain⟨⟨q1,q2⟩,q3⟩:=y9911
   have:=eq_of_beq q1
   clear C hi ha ht hf hnd hfr hfo hfi hcell hkind he' hA R X hpost hg hr N₁ R₁ X₁ I hS fr1 nm hdp hH2 hρ2 hns hsb N₂ R₂ rv X₂ e2 k2 N₃ R₃ X₃ N₁₃ N frD frD1 nD nE hj hi' hl hy hx q1;subst this
   refine I23 x u' rfl (.inr ⟨?_,?_⟩) ru
   ·have hc:=cap_iff q3
    rw[EC.kind hcn' x];exact hc
   ·refine E11 (hcl2 x (by simpa using q4)) λa hxa=>?_
    refine I12 a hxa ?_
    have hc:=cap_iff q2
    rcases hv with⟨hk,_⟩|⟨_,b,hb,hcl⟩
    ·rw[EC.kind he x]at hk
     rcases hc with hc|hc <;> (rw[hc]at hk;cases hk)
    ·obtain rfl:=oin (hcl1 x a hxa) hb;exact hcl
 have hSl:S 0 h₂:=I.keep 0 h₁ h₂ hS λb o _ e=>k2 b o (by rw[←hH2];exact Heap.get?_push_of_some _ e)
 refine E22 (mbind hr) λu st₂ hlp hp=>?_
 refine E02 (Prod.mk.inj (mpure hp)) λq916 q917=>?_;clear hi hnd hfr hfo hfi hcell hkind he he' hcl2 hg hr N₁ X₁ hH2 hρ2 hsb N₂ R₂ rv X₂ k2 N₃ X₃ nD hp;subst q916;subst q917
 have Dex:∃o,h₂.get? H2.objs.size=some o:=let⟨o,_,_,e,_⟩:=hns;⟨o,e⟩
 have frI:∀b,fI b→h₁.get? b≠none:=λb hb z=>by refine E11 (I.ats 0 h₁ b hS (.inl hb)) λo e=>?_;exact nn z e
 have loop:∀s₃:Shared,s₃={s with heap:=h₂,toks:=tk₁}→codeAny (model prog w) A (.compLoop (.ListComp elt [⟨tg,iter,ifs,0⟩] scope pos) 0 it (.ref h₁.objs.size) (compEnvC scope cl H2.objs.size env))
  (compPost (model prog w) A E use Q (.ref h₁.objs.size) H2.objs.size) s₃:=by
  rintro s₃ rfl
  refine compLp_sem (s:={s with heap:=h₂,toks:=tk₁}) (k:=st₁.n) (fuel:=fuel) (ρb:=ρ) (stb:=st) (hb:=s.heap) C ha ht hf hcn' hA R₃ XC I N₁₃.tr hSl e2 (Nat.lt_succ_self _) ?_ (λb hb=>R.fresh (fr1 b hb)) ?_ ?_ R N ?_ hlp ?_
  ·rintro b hb (z|⟨x,z⟩)
   ·have z':b=H2.objs.size:=z
    exact frI b hb (by rw[z'];exact frD1)
   ·obtain⟨u,o,e,_⟩:=X.cel x b (hcl1 x b z);rw[fr1 b hb]at e;cases e
  ·intro b hb k hk
   obtain⟨o,e⟩:=I.ats 0 h₁ b hS (.inl hb)
   exact N₁₃.offF R₁ e (λk hk=>nm b hb k hk) k hk
  ·intro b hb
   refine⟨(hdp b hb).1,λk hk=>?_,?_⟩
   ·obtain⟨o,e⟩:=I.ats 0 h₁ b hS (.inr hb)
    exact N₁₃.off R₁ e (λk hk=>(hdp b hb).2.1 k hk) k hk
   ·rintro(z|⟨x,z⟩)
    ·obtain⟨o,e⟩:=I.ats 0 h₁ b hS (.inr hb)
     rw[show b=H2.objs.size from z,frD1]at e;cases e
    ·exact(hdp b hb).2.2 (.inr ⟨x,hcl1 x b z⟩)
  ·rintro b (z|z)
   ·rw[show b=H2.objs.size from z];exact frD
   ·exact fr1 b z
  ·intro ρ' h' tk l' Tf Nf Rf Xf
   have hk':ρ' st₁.n=h₁.objs.size:=by rw[Tf.ext _ (Nat.lt_succ_self _)];exact e2
   refine hpost ρ' h' tk h₁.objs.size H2.objs.size Nf Rf (X.nx C R Rf Nf) (by rw[←hk'];exact .ref (Nat.lt_of_lt_of_le (Nat.lt_succ_self _) Tf.le)) Xf.lns frD (R.fresh frD) Xf.sep nE
 exact codeAny_compStart_list (loop _ rfl) (I.self A 0 _ _ _ hSl (loop _ rfl))
theorem hnames_of{scope:Scope}(h:(scope.names.all λx=> !(x.2== .local)||(scope.names.lookup x.1==some .local))=true):∀x∈scope.names,x.2=.local→scope.names.lookup x.1=some .local:=by
 intro x hx hl
 have:=List.all_eq_true.mp h x hx
 rw[hl]at this
 simpa using this
theorem cell_of{scope:Scope}(h:(scope.names.all λx=> !(x.2== .cell))=true):∀x∈scope.names,x.2≠ .cell:=by
 intro x hx hl
 have:=List.all_eq_true.mp h x hx
 rw[hl]at this
 exact nft this
theorem free_of{scope:Scope}{cn:List Str}(h:freeOk scope cn=true){env:Env}(hc:∀x∈cn,∃a,env.cells.lookup x=some a):∀x,(x,NameKind.free)∈scope.names→∃a,env.cells.lookup x=some a:=by
 intro x hx
 have:=List.all_eq_true.mp h (x,.free) hx
 exact hc x (by simpa using this)
noncomputable def compB(nl nl':List Str)(scope SC:Scope)(cn cn':List Str)(fr:List (Nat×Nat)):Bool:=
 frB nl nl' scope SC fr&&freeOk scope cn&&freeIn scope cn'&&(scope.names.all λx=> !(x.2== .cell))&&(scope.kind== .function)&&(scope.names.all λx=> !(x.2== .local)||(scope.names.lookup x.1==some .local))
theorem compB_iff{nl nl':List Str}{scope SC:Scope}{cn cn':List Str}{fr:List (Nat×Nat)}(h:compB nl nl' scope SC cn cn' fr=true):
 frB nl nl' scope SC fr=true∧freeOk scope cn=true∧freeIn scope cn'=true∧(∀y∈scope.names,y.2≠ .cell)∧scope.kind=.function∧(∀x∈scope.names,x.2=.local→scope.names.lookup x.1=some .local):=by
 unfold compB at h
 simp only[Bool.and_eq_true]at h
 refine bc λhno=>?_;refine E02 h λy9387 h6=>?_;clear h;refine E02 y9387 λy93871 h5=>?_;obtain⟨⟨⟨h1,h2⟩,h3⟩,h4⟩:=y93871
 refine hno ?_;exact I06 h1 h2 h3 (cell_of h4) (eq_of_beq h5) (hnames_of h6)
theorem SemE.compG{elt tg iter:Expr}{ifs:List Expr}{scope SC:Scope}{cn cn':List Str}{nl':List Str}{pos:Pos}{g:Loc→M (Nat→St→Option (Option V))}{fr:List (Nat×Nat)}{ga:V→Loc→M Loc}{ft:Loc→M Bool}{fe:Loc→M V}{fuel:Nat}(C:c.Ok)
 {ec:Env→Prop} (hec:∀env,ec env→EC SC cn env) (hi:SemI c ec nl d tg iter g) (ha:SemA c (EC (relS scope SC) cn') nl' d FPl tg ga) (ht:SemTs c (EC (relS scope SC) cn') nl' d ifs ft) (hf:SemE c (EC (relS scope SC) cn') nl' d elt fe)
 (hnd:nl'.Nodup) (hB:compB nl nl' scope SC cn cn' fr=true) (hs:∀env x,foldedSetIterable iter env x=pure x):SemE c ec nl d (.ListComp elt [⟨tg,iter,ifs,0⟩] scope pos) (compM g fr ga ft fe fuel):=by
 refine E06 (compB_iff hB) λh1 h2 h3 h4 h5 h6=>?_
 intro A env l ρ st v st' s Q E he hA R X h0 hQ
 refine E13 (closureFor_ex (scope:=scope) (free_of h2 (hec env he).2.2.2.2)) λcl hcl hcl1 hcl2=>?_
 rw[eval_ListComp]
 refine wpAny_comprehension_free (use:=none) rfl (hs env) hcl h5 h6 ?_
 refine comp_sem C hi ha ht hf hnd h1 h2 h3 h4 h5 (hec env he) he hA R X h0 hcl1 hcl2 λρ' h' tk a D N R' X' rv hns fr0 h0D nD nE=>?_
 obtain⟨m,hns⟩:=hns
 refine I12 m hns (λh'' hs''=>?_)
 have R'':=R'.aside C hs'' h0D (Ns.mov hns) nD
 clear hec hi ha ht hf hnd hB hs h1 h2 h3 h4 h5 h6 he hA h0 hcl hcl1 hcl2 X' nD nE;refine E05 (R'.stat C hs'' h0D (Ns.mov hns)) λs1 s2 s3 s4 T=>?_
 have N'':Nx c NoA ρ st s.heap ρ' st' h'':=N.tail (fI:=λb=>b=D) (T _) (λb o hb e=>(hs''.2 b hb).trans e) (by rintro b rfl;exact fr0)
 exact hQ ρ' h'' tk _ N'' R'' (X.nx C R R'' N'') (rv.tr (T _))
theorem SemE.comp{elt tg iter:Expr}{ifs:List Expr}{scope SC:Scope}{cn cn':List Str}{nl':List Str}{pos:Pos}{g:Loc→M (Nat→St→Option (Option V))}{fr:List (Nat×Nat)}{ga:V→Loc→M Loc}{ft:Loc→M Bool}{fe:Loc→M V}{fuel:Nat}(C:c.Ok)
 (hi:SemI c (EC SC cn) nl d tg iter g) (ha:SemA c (EC (relS scope SC) cn') nl' d FPl tg ga) (ht:SemTs c (EC (relS scope SC) cn') nl' d ifs ft) (hf:SemE c (EC (relS scope SC) cn') nl' d elt fe)
 (hnd:nl'.Nodup) (hB:compB nl nl' scope SC cn cn' fr=true) (hs:∀env x,foldedSetIterable iter env x=pure x):SemE c (EC SC cn) nl d (.ListComp elt [⟨tg,iter,ifs,0⟩] scope pos) (compM g fr ga ft fe fuel):=SemE.compG C (λ_ h=>h) hi ha ht hf hnd hB hs
noncomputable def asgC(f:Loc→M V)(i:Nat):Loc→M (Loc×Fl):=λl=>do
 let v ←f l
 pure (up i v l,.next)
theorem SemS.assignComp{x:Str}{i:Nat}{px spos:Pos}{elt tg iter:Expr}{ifs:List Expr}{scope SC:Scope}{cn cn':List Str}{nl':List Str}{pos:Pos}{g:Loc→M (Nat→St→Option (Option V))}{fr:List (Nat×Nat)}{ga:V→Loc→M Loc}{ft:Loc→M Bool}{fe:Loc→M V}{fuel:Nat}(C:c.Ok)
 (hi:SemI c (EC SC cn) nl d tg iter g) (ha:SemA c (EC (relS scope SC) cn') nl' d FPl tg ga) (ht:SemTs c (EC (relS scope SC) cn') nl' d ifs ft) (hf:SemE c (EC (relS scope SC) cn') nl' d elt fe)
 (hnd:nl'.Nodup) (hB:compB nl nl' scope SC cn cn' fr=true) (hs:∀env x,foldedSetIterable iter env x=pure x)
 (hx:nl[i]? =some x) (hk:∀env,EC SC cn env→NameIs env x)
 (hsw:∀env,EC SC cn env→swapsWith (.ListComp elt [⟨tg,iter,ifs,0⟩] scope pos) (some (.Name x px)) spos.line env=pure true):
 SemS c (EC SC cn) nl d (.Assign [.Name x px] (.ListComp elt [⟨tg,iter,ifs,0⟩] scope pos) spos) (asgC (compM g fr ga ft fe fuel) i):=by
 refine E06 (compB_iff hB) λh1 h2 h3 h4 h5 h6=>?_
 intro A env l ρ st l' fl st' s Q E he hA R X h0 hQ
 refine bc λhno=>?_;refine E22 (mbind h0) λv st₁ h01 hr=>?_
 refine E02 (Prod.mk.inj (mpure hr)) λe1 e2=>?_
 refine E02 (Prod.mk.inj e1) λq9639 q9640=>?_;clear hB h0 hr e1;subst q9639;subst q9640
 subst e2
 refine E13 (closureFor_ex (scope:=scope) (free_of h2 he.2.2.2.2)) λcl hcl hcl1 hcl2=>?_
 refine hno ?_;rw[exec_Assign_Name_used _ _ _ _ (hsw env he)]
 refine wpAny_bind (wpAny_standAt (wpAny_bind ?_))
 show wpAny _ A (do let _ ←comprehension (.ListComp elt [⟨tg,iter,ifs,0⟩] scope pos) scope env _ (newList []) false (eval iter env) (some (PySem.assign (.Name x px) env))) _ _ s
 refine wpAny_bind (wpAny_mono (wpAny_comprehension_free (use:=some (PySem.assign (.Name x px) env)) (Q:=λ_ s'=>Q .next s') rfl (hs env) hcl h5 h6 ?_) (λ_ s' hq=>wpAny_pure (wpAny_pure hq)) λ_ _ e=>e)
 refine comp_sem C hi ha ht hf hnd h1 h2 h3 h4 h5 he he hA R X h01 hcl1 hcl2 λρ' h' tk a D N R' X' rv hns fr0 h0D nD nE=>?_
 obtain⟨m,hns⟩:=hns
 show wpAny _ A (PySem.assign (.Name x px) env (.ref a)) _ _ _
 refine wpAny_assign_Name (store_name (s:={s with heap:=h',toks:=tk}) C he.ok hx (hk env he) R' X' rv λh₁ tk₁ N₁ R₁ X₁=>?_)
 have hns₁:h₁.Ns D m:=Ns.of_get hns λo e=>N₁.un D o e (λk hk=>nD k (.inl hk)) nE (RelH.ntb C h0D)
 refine I12 m hns₁ (λh'' hs''=>?_)
 have R'':=R₁.aside C hs'' h0D (Ns.mov hns₁) nD
 clear hi ha ht hf hnd hs hx hk hsw h1 h2 h3 h4 h5 h6 he hA X h01 hcl hcl1 hcl2 X' rv nD hns;refine E05 (R₁.stat C hs'' h0D (Ns.mov hns₁)) λs1 s2 s3 s4 T=>?_
 have N₂:Nx c (FPe env) ρ st s.heap ρ' _ h₁:=(N.wide λ_ q=>q.elim).trans R R' N₁ λb q=>.inl q
 have N'':Nx c (FPe env) ρ st s.heap ρ' _ h'':=N₂.tail (fI:=λb=>b=D) (T _) (λb o hb e=>(hs''.2 b hb).trans e) (by rintro b rfl;exact fr0)
 exact hQ ρ' h'' _ .next N'' R'' (X₁.side (T _) λb o q e=>(hs''.2 b (λz=>nE (z▸q))).trans e) .next
end
end
section
variable{prog:Program}{w:World}
section
variable{c:Cfg prog w}{ec:Env→Prop}{nl:List Str}{d:Nat}
noncomputable def truV(SR:List (Nat×AO))(v:V)(st:St):Option Bool:=match v with
 |.none=>some false
 |.bool b=>some b
 |.ref k=>match rdO k st with
  |some (.list xs)=>match Nat.ble xs.length 100000 with
   |true=>some (!xs.isEmpty)
   |false=>none
  |_=>none
 |_=>none
noncomputable def truM(SR:List (Nat×AO))(v:V):M Bool:=λst=>match truV SR v st with
 |some b=>some (b,st)
 |none=>none
theorem truM_inv{SR:List (Nat×AO)}{v:V}{st:St}{r:Bool×St}(e:truM SR v st=some r):truV SR v st=some r.1∧r.2=st:=by
 unfold truM at e
 cases q:truV SR v st with
 |none=>rw[q]at e;exact nos e
 |some b=>rw[q]at e;clear q;refine E02 (spi e) λq9225 q9226=>?_;clear e;subst q9225;subst q9226;exact⟨rfl,rfl⟩
theorem truthy_sem{A:Around}{ρ:Nat→Addr}{st:St}{v:V}{v':Value}{b:Bool}{s:Shared}{Q:Bool→Shared→Prop}{E:Value→Shared→Prop}(R:RelH c ρ st s.heap)(r:VR st.n ρ s.heap v v')(h0:truV c.SR v st=some b)
 (hQ:∀tk,Q b {s with toks:=tk}):wpAny (model prog w) A (truthy v') Q E s:=by
 cases r with
 |none=>obtain rfl:=sin h0;exact truthy_none (hQ s.toks)
 |bool b'=>obtain rfl:=sin h0;exact wpAny_truthy_bool (hQ s.toks)
 |ref hk=>
  rename_i k
  have h0':(match rdO k st with
   |some (.list xs)=>match Nat.ble xs.length 100000 with
    |true=>some (!xs.isEmpty)
    |false=>none
   |_=>none)=some b:=h0
  cases q:rdO k st with
  |none=>rw[q]at h0';exact nos h0'
  |some o=>
   rw[q]at h0'
   cases o <;> first|cases h0';done|skip
   rename_i xs
   dsimp only at h0'
   refine bc λhno=>?_;cases q':Nat.ble xs.length 100000 with
   |false=>rw[q']at h0';exact nos h0'
   |true=>
    rw[q']at h0';clear hk h0;obtain rfl:=sin h0'
    refine E22 (R.rdO q) λits m hl rs=>?_
    have hlen:=rs.length
    simp at hlen
    have:=Nat.le_of_ble_eq_true q'
    refine hno ?_;refine wpAny_truthy_list (items:=its) ⟨_,hl,rfl,m,rfl⟩ (by lia) ?_
    have e:(!its.isEmpty)= !xs.isEmpty:=by
     congr 1
     clear R q q' hQ hl rs this;clear hno h0';cases xs with
     |nil=>simp at hlen;simp[hlen]
     |cons a r=>simp at hlen;simp only[List.isEmpty_cons];unfold Array.isEmpty;rw[decide_eq_false];lia
    rw[e];exact hQ _
 |int i t=>exact nos h0
 |str x t e=>exact nos h0
 |tup _ _=>exact nos h0
 |adr a=>exact nos h0
 |bi x=>exact nos h0
 |ty x=>exact nos h0
noncomputable def tst(SR:List (Nat×AO))(f:Loc→M V):Loc→M Bool:=λl=>do
 let v ←f l
 truM SR v
theorem SemT.val{e:Expr}{f:Loc→M V}(h:SemE c ec nl d e f)(he':∀env whole,isTrue e env whole=(do let v ←whole;standAt e.pos;holding [v] (truthy v))):SemT c ec nl d e (tst c.SR f):=by
 intro A env l ρ st b st' s Q E he hA R X h0 hQ
 refine E22 (mbind h0) λv st₁ hf hr=>?_
 refine E02 (truM_inv hr) λh1 h2=>?_
 dsimp only at h1 h2
 clear h0 hr;subst h2
 refine wpAny_isTrue_value (h A env l ρ st v _ s _ E he hA R X hf λρ' h' tk v' N R' X' rv=>?_) (he' env _)
 exact truthy_sem (s:={s with heap:=h',toks:=tk}) R' rv h1 λtk'=>hQ ρ' h' tk' N R' X'
theorem SemT.cmp{op:CmpOp}{e₁ e₂:Expr}{pos:Pos}{f g:Loc→M V}{o:V→V→M V}(C:c.Ok)(h₁:SemE c ec nl d e₁ f)(h₂:SemE c ec nl d e₂ g)(ho:SemOp c d (compareOp op) o)(hm:behindInMarks op e₂=false):
 SemT c ec nl d (.Compare e₁ [op] [e₂] pos) (tst c.SR (λl=>do let a ←f l;let b ←g l;o a b)):=by
 intro A env l ρ st b st' s Q E he hA R X h0 hQ
 refine bc λhno=>?_;refine E22 (mbind h0) λv st₁ h01 hr=>?_
 refine E02 (truM_inv hr) λh1 h2=>?_
 dsimp only at h1 h2
 clear h0 hr;subst h2
 refine E22 (mbind h01) λa st₁ hf hr1=>?_
 clear h01
 refine E22 (mbind hr1) λb' st₂ hg hr11=>?_
 refine hno ?_;refine wpAny_isTrue_Compare1 (h₁.two h₂ C he hA R X hf hg λρ' h' tk a' b'' N R' X' ra rb=>
  ho A ρ' st₂ a b' v _ a' b'' {s with heap:=h',toks:=tk} _ E hA R' ra rb hr11 λρ'' h'' tk' v' N' R'' rv=>?_) hm
 exact truthy_sem (s:={s with heap:=h'',toks:=tk'}) R'' rv h1 λtk''=>hQ ρ'' h'' tk'' (N.trans R R' N' λ_ q=>q.elim) R'' (X'.nx C R' R'' N')
noncomputable def notT(f:Loc→M Bool):Loc→M Bool:=λl=>do
 let b ←f l
 pure (!b)
theorem SemT.not{x:Expr}{pos:Pos}{f:Loc→M Bool}(h:SemT c ec nl d x f):SemT c ec nl d (.UnaryOp .Not x pos) (notT f):=by
 intro A env l ρ st b st' s Q E he hA R X h0 hQ
 refine bc λhno=>?_;refine E22 (mbind h0) λv st₁ hf hr=>?_
 refine E02 (Prod.mk.inj (mpure hr)) λq9729 q9730=>?_;clear h0 hr;subst q9729;subst q9730
 refine hno ?_;exact wpAny_isTrue_Not (h A env l ρ st v _ s _ E he hA R X hf λρ' h' tk N R' X'=>hQ ρ' h' tk N R' X')
noncomputable def SemTL(c:Cfg prog w)(ec:Env→Prop)(nl:List Str)(d:Nat)(op:BoolOp)(es:List Expr)(f:Loc→M Bool):Prop:=
 ∀(A:Around) (env:Env) (l:Loc) (ρ:Nat→Addr) (st:St) (v:Bool) (st':St) (s:Shared) (Q:Bool→Shared→Prop) (E:Value→Shared→Prop),
  ec env→AOk d A→RelH c ρ st s.heap→LocR c env nl l ρ st s.heap→f l st=some (v,st')→
  (KT c env nl l ρ st s v st' Q)→
  wpAny (model prog w) A (allTrue op es env) Q E s
theorem SemT.boolop{op:BoolOp}{es:List Expr}{pos:Pos}{f:Loc→M Bool}(h:SemTL c ec nl d op es f):SemT c ec nl d (.BoolOp op es pos) f:=by
 intro A env l ρ st b st' s Q E he hA R X h0 hQ
 exact wpAny_isTrue_BoolOp (h A env l ρ st b st' s Q E he hA R X h0 hQ)
theorem SemTL.andNil:SemTL c ec nl d .And [] λ_=>pure true:=by
 intro A env l ρ st b st' s Q E he hA R X h0 hQ
 refine E02 (Prod.mk.inj (mpure h0)) λq9827 q9828=>?_;clear he hA h0;subst q9827;subst q9828
 exact wpAny_allTrue_And_nil (hQ ρ s.heap s.toks .refl R X)
theorem SemTL.orNil:SemTL c ec nl d .Or [] λ_=>pure false:=by
 intro A env l ρ st b st' s Q E he hA R X h0 hQ
 refine E02 (Prod.mk.inj (mpure h0)) λq9855 q9856=>?_;clear he hA h0;subst q9855;subst q9856
 exact wpAny_allTrue_Or_nil (hQ ρ s.heap s.toks .refl R X)
noncomputable def andT(f g:Loc→M Bool):Loc→M Bool:=λl=>do
 let b ←f l
 match b with
 |true=>g l
 |false=>pure false
noncomputable def orT(f g:Loc→M Bool):Loc→M Bool:=λl=>do
 let b ←f l
 match b with
 |true=>pure true
 |false=>g l
theorem SemTL.andCons{x:Expr}{r:List Expr}{f g:Loc→M Bool}(C:c.Ok)(hx:SemT c ec nl d x f)(hr:SemTL c ec nl d .And r g):SemTL c ec nl d .And (x::r) (andT f g):=by
 intro A env l ρ st b st' s Q E he hA R X h0 hQ
 refine E22 (mbind h0) λv st₁ hf h1=>?_
 refine wpAny_allTrue_And_cons (hx A env l ρ st v st₁ s _ E he hA R X hf λρ₁ h₁ tk₁ N₁ R₁ X₁=>?_)
 clear C hx X h0 hf;cases v with
 |true=>
  exact hr A env l ρ₁ st₁ b st' {s with heap:=h₁,toks:=tk₁} Q E he hA R₁ X₁ h1 λρ₂ h₂ tk₂ N₂ R₂ X₂=>hQ ρ₂ h₂ tk₂ (N₁.trans R R₁ N₂ λ_ q=>q.elim) R₂ X₂
 |false=>
  refine E02 (Prod.mk.inj (mpure h1)) λq9995 q9996=>?_;clear hr he hA R h1;subst q9995;subst q9996
  exact hQ ρ₁ h₁ tk₁ N₁ R₁ X₁
theorem SemTL.orCons{x:Expr}{r:List Expr}{f g:Loc→M Bool}(C:c.Ok)(hx:SemT c ec nl d x f)(hr:SemTL c ec nl d .Or r g):SemTL c ec nl d .Or (x::r) (orT f g):=by
 intro A env l ρ st b st' s Q E he hA R X h0 hQ
 refine E22 (mbind h0) λv st₁ hf h1=>?_
 refine wpAny_allTrue_Or_cons (hx A env l ρ st v st₁ s _ E he hA R X hf λρ₁ h₁ tk₁ N₁ R₁ X₁=>?_)
 clear C hx X h0 hf;cases v with
 |false=>
  exact hr A env l ρ₁ st₁ b st' {s with heap:=h₁,toks:=tk₁} Q E he hA R₁ X₁ h1 λρ₂ h₂ tk₂ N₂ R₂ X₂=>hQ ρ₂ h₂ tk₂ (N₁.trans R R₁ N₂ λ_ q=>q.elim) R₂ X₂
 |true=>
  refine E02 (Prod.mk.inj (mpure h1)) λq965 q966=>?_;clear hr he hA R h1;subst q965;subst q966
  exact hQ ρ₁ h₁ tk₁ N₁ R₁ X₁
noncomputable def SemEB(c:Cfg prog w)(ec:Env→Prop)(nl:List Str)(d:Nat)(op:BoolOp)(es:List Expr)(f:Loc→M V):Prop:=
 ∀(pos:Pos) (A:Around) (env:Env) (l:Loc) (ρ:Nat→Addr) (st:St) (v:V) (st':St) (s:Shared) (Q:Value→Shared→Prop) (E:Value→Shared→Prop),
  ec env→AOk d A→RelH c ρ st s.heap→LocR c env nl l ρ st s.heap→f l st=some (v,st')→
  (KE c env nl l ρ st s v st' Q)→
  wpAny (model prog w) A (boolOp pos op (evalEach es env)) Q E s
theorem SemE.boolop{op:BoolOp}{es:List Expr}{pos:Pos}{f:Loc→M V}(h:SemEB c ec nl d op es f):SemE c ec nl d (.BoolOp op es pos) f:=by
 intro A env l ρ st b st' s Q E he hA R X h0 hQ
 rw[arm_eval_BoolOp]
 exact h pos A env l ρ st b st' s Q E he hA R X h0 hQ
theorem SemEB.one{op:BoolOp}{x:Expr}{f:Loc→M V}(h:SemE c ec nl d x f):SemEB c ec nl d op [x] f:=by
 intro pos A env l ρ st b st' s Q E he hA R X h0 hQ
 exact h A env l ρ st b st' s Q E he hA R X h0 hQ
noncomputable def andE(SR:List (Nat×AO))(f g:Loc→M V):Loc→M V:=λl=>do
 let v ←f l
 let b ←truM SR v
 match b with
 |true=>g l
 |false=>pure v
noncomputable def orE(SR:List (Nat×AO))(f g:Loc→M V):Loc→M V:=λl=>do
 let v ←f l
 let b ←truM SR v
 match b with
 |true=>pure v
 |false=>g l
theorem SemEB.andCons{x y:Expr}{r:List Expr}{f g:Loc→M V}(C:c.Ok)(hx:SemE c ec nl d x f)(hr:SemEB c ec nl d .And (y::r) g):SemEB c ec nl d .And (x::y::r) (andE c.SR f g):=by
 intro pos A env l ρ st v st' s Q E he hA R X h0 hQ
 refine bc λhno=>?_;refine E22 (mbind h0) λv₁ st₁ hf h1=>?_
 clear h0
 refine E22 (mbind h1) λb st₂ ht h11=>?_
 refine E02 (truM_inv ht) λh2 h3=>?_
 dsimp only at h2 h3
 clear C h1 ht;subst h3
 refine hno ?_;show wpAny (model prog w) A (do
  let v ←eval x env
  standAt pos
  let t ←holding [v] (truthy v)
  match BoolOp.And,t with
  |.And,false|.Or,true=>pure v
  |_,_=>boolOp pos .And (evalEach (y::r) env)) Q E s
 refine wpAny_bind (hx A env l ρ st v₁ _ s _ E he hA R X hf λρ₁ h₁ tk₁ v' N₁ R₁ X₁ rv=>?_)
 refine wpAny_bind (wpAny_standAt (wpAny_bind (wpAny_holding ?_)))
 refine truthy_sem (s:={s with heap:=h₁,toks:=tk₁}) R₁ rv h2 λtk₂=>?_
 clear hx X hf h2;cases b with
 |false=>
  refine E02 (Prod.mk.inj (mpure h11)) λq9401 q9402=>?_;clear hr he hA R h11;subst q9401;subst q9402
  exact wpAny_pure (hQ ρ₁ h₁ tk₂ v' N₁ R₁ X₁ rv)
 |true=>
  exact hr pos A env l ρ₁ _ v st' {s with heap:=h₁,toks:=tk₂} Q E he hA R₁ X₁ h11 λρ₂ h₂ tk₃ v'' N₂ R₂ X₂ rv'=>hQ ρ₂ h₂ tk₃ v'' (N₁.trans R R₁ N₂ λ_ q=>q.elim) R₂ X₂ rv'
theorem SemEB.orCons{x y:Expr}{r:List Expr}{f g:Loc→M V}(C:c.Ok)(hx:SemE c ec nl d x f)(hr:SemEB c ec nl d .Or (y::r) g):SemEB c ec nl d .Or (x::y::r) (orE c.SR f g):=by
 intro pos A env l ρ st v st' s Q E he hA R X h0 hQ
 refine bc λhno=>?_;refine E22 (mbind h0) λv₁ st₁ hf h1=>?_
 clear h0
 refine E22 (mbind h1) λb st₂ ht h11=>?_
 refine E02 (truM_inv ht) λh2 h3=>?_
 dsimp only at h2 h3
 clear C h1 ht;subst h3
 refine hno ?_;show wpAny (model prog w) A (do
  let v ←eval x env
  standAt pos
  let t ←holding [v] (truthy v)
  match BoolOp.Or,t with
  |.And,false|.Or,true=>pure v
  |_,_=>boolOp pos .Or (evalEach (y::r) env)) Q E s
 refine wpAny_bind (hx A env l ρ st v₁ _ s _ E he hA R X hf λρ₁ h₁ tk₁ v' N₁ R₁ X₁ rv=>?_)
 refine wpAny_bind (wpAny_standAt (wpAny_bind (wpAny_holding ?_)))
 refine truthy_sem (s:={s with heap:=h₁,toks:=tk₁}) R₁ rv h2 λtk₂=>?_
 clear hx X hf h2;cases b with
 |true=>
  refine E02 (Prod.mk.inj (mpure h11)) λq9569 q9570=>?_;clear hr he hA R h11;subst q9569;subst q9570
  exact wpAny_pure (hQ ρ₁ h₁ tk₂ v' N₁ R₁ X₁ rv)
 |false=>
  exact hr pos A env l ρ₁ _ v st' {s with heap:=h₁,toks:=tk₂} Q E he hA R₁ X₁ h11 λρ₂ h₂ tk₃ v'' N₂ R₂ X₂ rv'=>hQ ρ₂ h₂ tk₃ v'' (N₁.trans R R₁ N₂ λ_ q=>q.elim) R₂ X₂ rv'
noncomputable def iteE(t:Loc→M Bool)(f g:Loc→M V):Loc→M V:=λl=>do
 let b ←t l
 match b with
 |true=>f l
 |false=>g l
theorem SemE.ifexp{t b o:Expr}{pos:Pos}{ft:Loc→M Bool}{f g:Loc→M V}(C:c.Ok)(ht:SemT c ec nl d t ft)(hb:SemE c ec nl d b f)(ho:SemE c ec nl d o g):SemE c ec nl d (.IfExp t b o pos) (iteE ft f g):=by
 intro A env l ρ st v st' s Q E he hA R X h0 hQ
 refine E22 (mbind h0) λb' st₁ hf hr=>?_
 refine wpAny_IfExp (ht A env l ρ st b' st₁ s _ E he hA R X hf λρ₁ h₁ tk₁ N₁ R₁ X₁=>?_)
 clear C ht X h0 hf;cases b' with
 |true=>exact hb A env l ρ₁ st₁ v st' {s with heap:=h₁,toks:=tk₁} Q E he hA R₁ X₁ hr λρ₂ h₂ tk₂ v' N₂ R₂ X₂ rv=>hQ ρ₂ h₂ tk₂ v' (N₁.trans R R₁ N₂ λ_ q=>q.elim) R₂ X₂ rv
 |false=>exact ho A env l ρ₁ st₁ v st' {s with heap:=h₁,toks:=tk₁} Q E he hA R₁ X₁ hr λρ₂ h₂ tk₂ v' N₂ R₂ X₂ rv=>hQ ρ₂ h₂ tk₂ v' (N₁.trans R R₁ N₂ λ_ q=>q.elim) R₂ X₂ rv
noncomputable def negE(f:Loc→M V):Loc→M V:=λl=>do
 let v ←f l
 match v with
 |.int i=>pure (.int (-i))
 |_=>fail
theorem SemE.neg{x:Expr}{pos:Pos}{f:Loc→M V}(h:SemE c ec nl d x f):SemE c ec nl d (.UnaryOp .USub x pos) (negE f):=by
 intro A env l ρ st v st' s Q E he hA R X h0 hQ
 refine bc λhno=>?_;refine E22 (mbind h0) λv₁ st₁ hf hr=>?_
 cases v₁ <;> first|(cases hr;done)|skip
 clear h0;refine E02 (Prod.mk.inj (mpure hr)) λq9758 q9759=>?_;clear hr;subst q9758;subst q9759
 refine hno ?_;refine wpAny_UnaryOp (h A env l ρ st _ _ s _ E he hA R X hf λρ₁ h₁ tk₁ v' N₁ R₁ X₁ rv=>?_)
 refine bc λhno=>?_;cases rv
 refine hno ?_;exact P.neg_int (hQ ρ₁ h₁ _ _ N₁ R₁ X₁ (.int _ _))
noncomputable def chainE(SR:List (Nat×AO))(f g k:Loc→M V)(o p:V→V→M V):Loc→M V:=λl=>do
 let a ←f l
 let b ←g l
 let q ←o a b
 let t ←truM SR q
 match t with
 |true=>do
  let e ←k l
  p b e
 |false=>pure q
theorem chain_core{op₁ op₂:CmpOp}{e₂ e₃:Expr}{pos:Pos}{g k:Loc→M V}{o p:V→V→M V}(C:c.Ok)(h₂:SemE c ec nl d e₂ g)(h₃:SemE c ec nl d e₃ k)(ho:SemOp c d (compareOp op₁) o)(hp:SemOp c d (compareOp op₂) p)
 {A:Around} {env:Env} {l:Loc} {ρ:Nat→Addr} {st st':St} {a v:V} {a':Value} {s:Shared} {Q:Value→Shared→Prop} {E:Value→Shared→Prop} (he:ec env) (hA:AOk d A) (R:RelH c ρ st s.heap) (X:LocR c env nl l ρ st s.heap) (ra:VR st.n ρ s.heap a a')
 (h0:(do
   let b ←g l
   let q ←o a b
   let t ←truM c.SR q
   match t with
   |true=>do
    let e ←k l
    p b e
   |false=>pure q:M V) st=some (v,st'))
 (hQ:KE c env nl l ρ st s v st' Q):
 wpAny (model prog w) A (compareChain pos a' [op₁,op₂] [eval e₂ env,eval e₃ env]) Q E s:=by
 refine bc λhno=>?_;refine E22 (mbind h0) λb st₁ hg h01=>?_
 refine E22 (mbind h01) λq st₂ hq h011=>?_
 refine E22 (mbind h011) λt st₃ ht h0111=>?_
 refine E02 (truM_inv ht) λh4 h5=>?_
 dsimp only at h4 h5
 clear h0 h01 h011 ht;subst h5
 refine hno ?_;refine chain_link (h₂ A env l ρ st b st₁ s _ E he hA R X hg λρ₁ h₁ tk₁ b' N₁ R₁ X₁ rb=>?_)
 refine ho A ρ₁ st₁ a b q _ a' b' {s with heap:=h₁,toks:=tk₁} _ E hA R₁ (ra.tr N₁.tr) rb hq λρ₂ h₂' tk₂ q' N₂ R₂ rq=>?_
 refine truthy_sem (s:={s with heap:=h₂',toks:=tk₂}) R₂ rq h4 λtk₃=>?_
 have X₂:=X₁.nx C R₁ R₂ N₂
 have N₁₂:=N₁.trans R R₁ N₂ λ_ q=>q.elim
 clear h₂ ho X ra hg hq h4 N₁ R₁ X₁;cases t with
 |false=>
  refine E02 (Prod.mk.inj (mpure h0111)) λq952 q953=>?_;clear C h₃ hp he hA R rb N₂ h0111;subst q952;subst q953
  exact hQ ρ₂ h₂' tk₃ q' N₁₂ R₂ X₂ rq
 |true=>
  rw[if_pos rfl]
  refine E22 (mbind h0111) λe st₄ hk h01111=>?_
  refine chain_last (h₃ A env l ρ₂ _ e st₄ {s with heap:=h₂',toks:=tk₃} _ E he hA R₂ X₂ hk λρ₄ h₄ tk₄ e' N₄ R₄ X₄ re=>?_)
  refine hp A ρ₄ st₄ b e v st' b' e' {s with heap:=h₄,toks:=tk₄} _ E hA R₄ ((rb.tr N₂.tr).tr N₄.tr) re h01111 λρ₅ h₅ tk₅ v' N₅ R₅ rv=>?_
  have N₂₄:Nx c NoA ρ st s.heap ρ₄ st₄ h₄:=N₁₂.trans R R₂ N₄ λ_ q=>q.elim
  exact hQ ρ₅ h₅ tk₅ v' (N₂₄.trans R R₄ N₅ λ_ q=>q.elim) R₅ (X₄.nx C R₄ R₅ N₅) rv
theorem SemE.chain{op₁ op₂:CmpOp}{e₁ e₂ e₃:Expr}{pos:Pos}{f g k:Loc→M V}{o p:V→V→M V}(C:c.Ok)(h₁:SemE c ec nl d e₁ f)(h₂:SemE c ec nl d e₂ g)(h₃:SemE c ec nl d e₃ k)(ho:SemOp c d (compareOp op₁) o)(hp:SemOp c d (compareOp op₂) p)
 (hm:lastMarks [op₁,op₂] [e₂,e₃]=false):SemE c ec nl d (.Compare e₁ [op₁,op₂] [e₂,e₃] pos) (chainE c.SR f g k o p):=by
 intro A env l ρ st v st' s Q E he hA R X h0 hQ
 refine E22 (mbind h0) λa st₁ hf hr=>?_
 refine Compare_chain (rs:=[]) (h₁ A env l ρ st a st₁ s _ E he hA R X hf λρ₁ h₁' tk₁ a' N₁ R₁ X₁ ra=>?_) hm
 exact chain_core (s:={s with heap:=h₁',toks:=tk₁}) C h₂ h₃ ho hp he hA R₁ X₁ ra hr λρ₂ h₂' tk₂ v' N₂ R₂ X₂ rv=>hQ ρ₂ h₂' tk₂ v' (N₁.trans R R₁ N₂ λ_ q=>q.elim) R₂ X₂ rv
theorem SemT.chain{op₁ op₂:CmpOp}{e₁ e₂ e₃:Expr}{pos:Pos}{f g k:Loc→M V}{o p:V→V→M V}(C:c.Ok)(h₁:SemE c ec nl d e₁ f)(h₂:SemE c ec nl d e₂ g)(h₃:SemE c ec nl d e₃ k)(ho:SemOp c d (compareOp op₁) o)(hp:SemOp c d (compareOp op₂) p)
 (hm:lastMarks [op₁,op₂] [e₂,e₃]=false):SemT c ec nl d (.Compare e₁ [op₁,op₂] [e₂,e₃] pos) (tst c.SR (chainE c.SR f g k o p)):=by
 intro A env l ρ st v st' s Q E he hA R X h0 hQ
 refine bc λhno=>?_;refine E22 (mbind h0) λz st₀ h01 hz=>?_
 refine E02 (truM_inv hz) λz1 z2=>?_
 dsimp only at z1 z2
 clear h0 hz;subst z2
 refine E22 (mbind h01) λa st₁ hf hr=>?_
 refine hno ?_;refine isTrue_chain (rs:=[]) (h₁ A env l ρ st a st₁ s _ E he hA R X hf λρ₁ h₁ tk₁ a' N₁ R₁ X₁ ra=>?_) hm
 refine bc λhno=>?_;refine E22 (mbind hr) λb st₂ hg h011=>?_
 refine E22 (mbind h011) λq st₃ hq h0111=>?_
 refine E22 (mbind h0111) λt st₄ ht h01111=>?_
 refine E02 (truM_inv ht) λh4 h5=>?_
 dsimp only at h4 h5
 clear hm X h01 hf hr h011 h0111 ht;subst h5
 refine hno ?_;refine test_link (h₂ A env l ρ₁ st₁ b st₂ {s with heap:=h₁,toks:=tk₁} _ E he hA R₁ X₁ hg λρ₂ h₂ tk₂ b' N₂ R₂ X₂ rb=>?_)
 refine ho A ρ₂ st₂ a b q _ a' b' {s with heap:=h₂,toks:=tk₂} _ E hA R₂ (ra.tr N₂.tr) rb hq λρ₃ h₃' tk₃ q' N₃ R₃ rq=>?_
 refine truthy_sem (s:={s with heap:=h₃',toks:=tk₃}) R₃ rq h4 λtk₄=>?_
 have N₀₂:=N₁.trans R R₁ N₂ λ_ q=>q.elim
 have X₃:=X₂.nx C R₂ R₃ N₃
 have N₀₃:Nx c NoA ρ st s.heap ρ₃ _ h₃':=N₀₂.trans R R₂ N₃ λ_ q=>q.elim
 refine bc λhno=>?_;cases t with
 |false=>
  refine E02 (Prod.mk.inj (mpure h01111)) λq9325 q9326=>?_;clear C h₃ ho hp he hA R N₁ R₁ X₁ ra hg hq N₂ R₂ X₂ rb N₃ rq N₀₂ h01111;subst q9325;subst q9326
  obtain rfl:=oin h4 z1
  refine hno ?_;exact hQ ρ₃ h₃' tk₄ N₀₃ R₃ X₃
 |true=>
  refine hno ?_;rw[if_pos rfl]
  refine E22 (mbind h01111) λe st₅ hk h011111=>?_
  refine test_last (h₃ A env l ρ₃ _ e st₅ {s with heap:=h₃',toks:=tk₄} _ E he hA R₃ X₃ hk λρ₄ h₄ tk₄ e' N₄ R₄ X₄ re=>?_)
  refine hp A ρ₄ st₅ b e z _ b' e' {s with heap:=h₄,toks:=tk₄} _ E hA R₄ ((rb.tr N₃.tr).tr N₄.tr) re h011111 λρ₅ h₅ tk₅ v' N₅ R₅ rv=>?_
  have N₀₄:Nx c NoA ρ st s.heap ρ₄ st₅ h₄:=N₀₃.trans R R₃ N₄ λ_ q=>q.elim
  exact truthy_sem (s:={s with heap:=h₅,toks:=tk₅}) R₅ rv z1 λtk₆=>hQ ρ₅ h₅ tk₆ (N₀₄.trans R R₄ N₅ λ_ q=>q.elim) R₅ (X₄.nx C R₄ R₅ N₅)
end
end
section
variable{prog:Program}{w:World}
section
variable{c:Cfg prog w}{ec:Env→Prop}{nl:List Str}{d:Nat}
theorem RelH.g(C:c.Ok){ρ:Nat→Addr}{st:St}{h:Heap}(R:RelH c ρ st h):h.Ns mainGlobals c.mg:=E32 C.g.1 λo es ep e r=>I32 o es ep (R.still _ _ e C.g.2) r
theorem RelH.b(C:c.Ok){ρ:Nat→Addr}{st:St}{h:Heap}(R:RelH c ρ st h):h.Ns builtinsNs c.mb:=E32 C.b.1 λo es ep e r=>I32 o es ep (R.still _ _ e C.b.2) r
theorem RelH.mb(C:c.Ok){ρ:Nat→Addr}{st:St}{h:Heap}(R:RelH c ρ st h)(x:Str)(hx:x≠"__name__"):c.mb x=bootBuiltins x:=C.bn x hx
theorem SemE.glob{x:Str}{pos:Pos}{v:V}{val:Value}(C:c.Ok)(hec:∀env,ec env→EnvOk env)(hk:∀env,ec env→env.kindOf x=some .globalImplicit)(e:nsIn c.KS mainGlobals x=some (some val))(hv:∀n ρ h,c.KS.In h→VR n ρ h v val)
 (hd:(x==("__debug__":Str))=false:=by decide):SemE c ec nl d (.Name x pos) λ_=>pure v:=by
 intro A env l ρ st u st' s Q E he hA R X h0 hQ
 refine E02 (Prod.mk.inj (mpure h0)) λq9176 q9177=>?_;clear hA h0;subst q9176;subst q9177
 have hE:=hec env he
 refine Name_function_global hE.1 (hk env he) (loadGlobal_global (by rw[hE.2.1];exact R.g C) (mg_of R.ks (R.g C) e) ?_) hd
 exact hQ ρ s.heap s.toks val .refl R X (hv _ _ _ R.ks)
theorem SemE.builtin{x:Str}{pos:Pos}{v:V}{val:Value}(C:c.Ok)(hec:∀env,ec env→EnvOk env)(hk:∀env,ec env→env.kindOf x=some .globalImplicit)(e:nsIn c.KS mainGlobals x=some none)(hb:bootBuiltins x=some val)(hn:x≠"__name__")(hv:∀n ρ h,VR n ρ h v val)
 (hd:(x==("__debug__":Str))=false:=by decide):SemE c ec nl d (.Name x pos) λ_=>pure v:=by
 intro A env l ρ st u st' s Q E he hA R X h0 hQ
 refine E02 (Prod.mk.inj (mpure h0)) λq9232 q9233=>?_;clear hA h0;subst q9232;subst q9233
 have hE:=hec env he
 refine Name_function_global hE.1 (hk env he) (loadGlobal_builtin (by rw[hE.2.1];exact R.g C) (mg_none_of R.ks (R.g C) e) (by rw[hE.2.2];exact R.b C) ((R.mb C x hn).trans hb) ?_) hd
 exact hQ ρ s.heap s.toks val .refl R X (hv _ _ _)
noncomputable def eqL:List Nat→List Nat→Bool
 | [],[]=>true
 |a::l,b::r=>match Nat.beq a b with
  |true=>eqL l r
  |false=>false
 |_,_=>false
theorem eqL_iff(a b:List Nat):eqL a b=true↔a=b:=by
 induction a generalizing b with
 |nil=>cases b with
  |nil=>exact⟨λ_=>rfl,λ_=>rfl⟩
  |cons _ _=>exact⟨λh=>nft h,λh=>nomatch h⟩
 |cons a l ih=>cases b with
  |nil=>exact⟨λh=>nft h,λh=>nomatch h⟩
  |cons b r=>
   show(match Nat.beq a b with|true=>eqL l r|false=>false)=true↔_
   cases q:Nat.beq a b with
   |true=>exact⟨λh=>by rw[Nat.eq_of_beq_eq_true q,(ih r).mp h],λh=>(ih r).mpr (List.cons.inj h).2⟩
   |false=>exact⟨λh=>nft h,λh=>absurd (List.cons.inj h).1 (Nat.ne_of_beq_eq_false q)⟩
noncomputable def lkS(x:List Nat):List (List Nat×V)→Option V
 | []=>none
 |p::r=>match eqL p.1 x with
  |true=>some p.2
  |false=>lkS x r
noncomputable def upS(x:List Nat)(v:V):List (List Nat×V)→List (List Nat×V)
 | []=>[(x,v)]
 |p::r=>match eqL p.1 x with
  |true=>(p.1,v)::r
  |false=>p::upS x v r
theorem Str.ext{x y:Str}(h:x.cps.toList=y.cps.toList):x=y:=by
 cases x;cases y;simp only[Str.mk.injEq];exact Array.toList_inj.mp h
theorem isStr_eqL{x y:Str}{t:Tok}{l:List Nat}(hy:y.cps.toList=l)(e:Value)(he:e=.str y t):e.isStr x=eqL l x.cps.toList:=by
 subst he
 show(y==x)= _
 by_cases h:y=x
 ·subst h;rw[hy];simp[(eqL_iff l l).mpr rfl]
 ·rw[beq_false_of_ne h]
  cases q:eqL l x.cps.toList with
  |false=>rfl
  |true=>exact absurd (Str.ext (hy.trans ((eqL_iff _ _).mp q))) h
theorem NsR.get{n:Nat}{ρ:Nat→Addr}{h:Heap}{es:List (List Nat×V)}{des:List DictEntry}(x:NsR n ρ h es des)(name:Str){l:List Nat}(hl:name.cps.toList=l):
 match lkS l es with
 |some v=>∃v',getL name des=some (some v')∧VR n ρ h v v'
 |none=>getL name des=some none:=by
 subst hl
 have noref:des.any (·.refKey)=false:=by
  induction x with
  |nil=>rfl
  |cons y t q e v _ ih=>
   rw[List.any_cons,ih,Bool.or_false]
   unfold DictEntry.refKey
   rw[e]
 unfold getL
 rw[noref]
 clear noref
 induction x with
 |nil=>rfl
 | @cons l0 v0 en es0 r0 y t q e v _ ih=>
   rw[List.find?_cons,isStr_eqL (x:=name) q _ e]
   show match (match eqL l0 name.cps.toList with|true=>some v0|false=>lkS name.cps.toList es0)with|some v=>_|none=>_
   cases z:eqL l0 name.cps.toList with
   |true=>exact I12 en.val rfl v
   |false=>exact ih
theorem NsR.put{n:Nat}{ρ:Nat→Addr}{h:Heap}{es:List (List Nat×V)}{des:List DictEntry}(x:NsR n ρ h es des)(name:Str){l:List Nat}(hl:name.cps.toList=l)(hsh:Int)(t:Tok){v:V}{v':Value}(rv:VR n ρ h v v'):
 NsR n ρ h (upS l v es) (putL name hsh (.str name t) v' des):=by
 subst hl
 induction x with
 |nil=>exact .cons name t rfl rfl rv .nil
 | @cons l0 v0 en es0 r0 y t' q e u r ih=>
   show NsR n ρ h (match eqL l0 name.cps.toList with|true=>(l0,v)::es0|false=>(l0,v0)::upS name.cps.toList v es0) _
   unfold putL
   rw[isStr_eqL (x:=name) q _ e]
   cases z:eqL l0 name.cps.toList with
   |true=>exact .cons y t' q e rv r
   |false=>exact .cons y t' q e u ih
noncomputable def rdN(C0:Addr)(v:V)(st:St):Option (Nat×List (List Nat×V)):=match v with
 |.ref k=>match rdO k st with
  |some (.inst C dk)=>match Nat.beq C C0 with
   |true=>match rdO dk st with
    |some (.ns es)=>some (dk,es)
    |_=>none
   |false=>none
  |_=>none
 |_=>none
theorem rdN_inv{C0:Addr}{v:V}{st:St}{r:Nat×List (List Nat×V)}(e:rdN C0 v st=some r):∃k,v=.ref k∧rdO k st=some (.inst C0 r.1)∧rdO r.1 st=some (.ns r.2):=by
 cases v with
 |ref k=>
  have e':(match rdO k st with
   |some (.inst C dk)=>match Nat.beq C C0 with
    |true=>match rdO dk st with
     |some (.ns es)=>some (dk,es)
     |_=>none
    |false=>none
   |_=>none)=some r:=e
  refine⟨k,rfl,?_⟩
  clear e
  cases q:rdO k st with
  |none=>rw[q]at e';exact nos e'
  |some o=>
   rw[q]at e'
   clear q
   cases o with
   |inst C dk=>
    dsimp only at e'
    cases q1:Nat.beq C C0 with
    |false=>rw[q1]at e';exact nos e'
    |true=>
     rw[q1]at e'
     dsimp only at e'
     cases q2:rdO dk st with
     |none=>rw[q2]at e';exact nos e'
     |some o=>
      rw[q2]at e'
      cases o with
      |ns es=>rw[Nat.eq_of_beq_eq_true q1,←sin e'];exact⟨rfl,q2⟩
      |_=>exact nos e'
   |_=>exact nos e'
 |_=>exact nos e
theorem inst_at{C0:Addr}{v:V}{v':Value}{ρ:Nat→Addr}{st:St}{h:Heap}{r:Nat×List (List Nat×V)}(R:RelH c ρ st h)(rv:VR st.n ρ h v v')(e:rdN C0 v st=some r):
 ∃a des m,v'=.ref a∧h.get? a=some (instObj C0 (ρ r.1))∧h.get? (ρ r.1)=some (dictOf des m)∧NsR st.n ρ h r.2 des∧InstAt h a (instObj C0 (ρ r.1)) C0 (some (dictOf des m)):=by
 refine E13 (rdN_inv e) λk q h1 h2=>?_;clear e;subst q
 refine E02 (R.rdO h1) λe1 _=>?_
 refine E22 (R.rdO h2) λdes m e2 x=>?_
 exact⟨_,des,m,rv.inv.1,e1,e2,x,e1,rfl,rfl,e2⟩
noncomputable def clsGet(K:Frag)(C:Addr)(name:Str):Bool:=plainGet K C name&&hasDictIn K C&&match findIn K (.ref C) name with
 |some attr=>noGet K attr
 |none=>false
noncomputable def handV:V→Bool
 |.bi id=>(withoutEnding? id "#data").isNone
 |_=>true
theorem handed{n:Nat}{ρ:Nat→Addr}{h:Heap}{v:V}{v':Value}(r:VR n ρ h v v')(hv:handV v=true):handedIn v'=true:=
 VR.rec (motive_1:=λv v' _=>handV v=true→handedIn v'=true) (motive_2:=λ_ _ _=>True) (λ_=>rfl) (λ_ _=>rfl) (λ_ _ _=>rfl) (λ_ _ _ _=>rfl) (λ_ _ _ _=>rfl) (λ_ _=>rfl) (λ_ _=>rfl) (λ_ h=>h) (λ_ _=>rfl) trivial (λ_ _ _ _=>trivial) r hv
noncomputable def notBi:V→Bool
 |.bi _=>false
 |_=>true
noncomputable def attrE(C0:Addr)(name:List Nat)(f:Loc→M V):Loc→M V:=λl=>do
 let v ←f l
 λst=>match rdN C0 v st with
  |some r=>match lkS name r.2 with
   |some x=>match notBi x with
    |true=>some (x,st)
    |false=>none
   |none=>none
  |none=>none
theorem SemE.attr{o:Expr}{name:Str}{l0:List Nat}{pos:Pos}{C0:Addr}{f:Loc→M V}(h:SemE c ec nl d o f)(hl:name.cps.toList=l0)(hc:clsGet c.KS C0 name=true)
 (he':∀env,eval (.Attribute o name pos) env=(do
   let x ←eval o env
   standAt pos.atName
   let r ←holding [x] (getAttr x name true)
   letTemporaryGo o x r
   pure r)):SemE c ec nl d (.Attribute o name pos) (attrE C0 l0 f):=by
 intro A env l ρ st u st' s Q E he hA R X h0 hQ
 refine bc λhno=>?_;refine E22 (mbind h0) λv st₁ hf hr=>?_
 have hr':(match rdN C0 v st₁ with
  |some r=>match lkS l0 r.2 with
   |some x=>match notBi x with
    |true=>some (x,st₁)
    |false=>none
   |none=>none
  |none=>none)=some (u,st'):=hr
 cases q:rdN C0 v st₁ with
 |none=>rw[q]at hr';exact nos hr'
 |some r=>
  rw[q]at hr'
  dsimp only at hr'
  cases q2:lkS l0 r.2 with
  |none=>rw[q2]at hr';exact nos hr'
  |some x=>
   rw[q2]at hr'
   dsimp only at hr'
   cases q3:notBi x with
   |false=>rw[q3]at hr';exact nos hr'
   |true=>
    rw[q3]at hr';clear h0 hr;refine E02 (spj hr') λq9478 q9479=>?_;subst q9478;subst q9479
    refine hno ?_;refine Attribute_any_ (h A env l ρ st v _ s _ E he hA R X hf λρ₁ h₁ tk₁ v' N₁ R₁ X₁ rv=>?_) (he' env)
    refine bc λhno=>?_;refine E35 (inst_at R₁ rv q) λa des m q9492 e1 e2 ns I=>?_;subst q9492
    unfold clsGet at hc
    simp only[Bool.and_eq_true]at hc
    refine E02 hc λy9513 hc3=>?_;clear hc;obtain⟨hc1,hc2⟩:=y9513
    have g:=ns.get name hl
    rw[q2]at g
    refine E12 g λx' hx' rx=>?_;clear g
    clear h hl he' he hA R X q2 hf q hr' rv e1 e2 ns;cases q4:findIn c.KS (.ref C0) name with
    |none=>rw[q4]at hc3;exact nft hc3
    |some attr=>
     rw[q4]at hc3
     refine hno ?_;refine get_value (s:={s with heap:=h₁,toks:=tk₁}) R₁.ks I (plainGet_of hc1).1 (findObj_own hc2 q4 hc3 hx') (handed rx (by cases u <;> first|rfl|cases q3)) ?_
     exact hQ ρ₁ h₁ _ x' N₁ R₁ X₁ rx
end
end
section
variable{prog:Program}{w:World}
section
variable{A:Around}{K:Frag}{C x:Addr}{s:Shared}{R:Result→Shared→Prop}
theorem osa_same{ox:Obj}{dx:Addr}{name:Str}{tk:Tok}{v:Value}{es:List DictEntry}{n:Nat}(X:K.In s.heap)
 (I:InstAt s.heap x ox C (some (dictOf es n))) (hd:ox.dict=some dx) (hp:plainOver K C=true) (ht:takerIn K C name=some none) (hh:hasDictIn K C=true)
 (hl:(getL name es).isSome=true) (hz:(putL name (PyData.keyHash w.params name) (.str name s.toks) v es).length≤1000)
 (h:∀h',Heap.SameBut dx s.heap h'→h'.get? dx=some (dictOf (putL name (PyData.keyHash w.params name) (.str name s.toks) v es) (putN name es n))→R (.ok (.ret .none)) {s with heap:=h',toks:=s.toks+1}):
 codeAny (model prog w) A (.call (.builtin "object.__setattr__") ⟨[.ref x,.str name tk,v],[]⟩) R s:=by
 refine osa_open X I hp ht λb=>?_
 refine bc λhno=>?_;refine E12 (any_some hh) λcd hc hd'=>?_
 obtain⟨hx,hcl,hn,hD⟩:=I
 obtain⟨oc,odi,oda,osl⟩:=ox
 dsimp only at hcl hd
 subst hcl hd
 have D:s.heap.get? dx=some (dictOf es n):=hD
 have D':(s.heap.update dx (Obj.putName name (PyData.keyHash w.params name) (.str name s.toks) v)).get? dx=some (dictOf (putL name (PyData.keyHash w.params name) (.str name s.toks) v es) (putN name es n)):=by
  rw[←putName_dict];exact Heap.get?_update_self _ D (by rw[putName_dict];rfl)
 refine hno ?_;refine wpAny_bind (wpAny_pure (wpAny_bind (wpAny_bind (wpAny_loadPart hx (wpAny_bind ((looks_clsIn X hc).here ?_))))))
 rw[hd']
 refine wpAny_pure (a:=some dx) (wpAny_bind (wpAny_pure (wpAny_bind ?_)))
 unfold nsSet
 refine wpAny_bind (wpAny_bind (wpAny_askSetting (wpAny_pure (wpAny_bind (wpAny_mkText (wpAny_bind (wpAny_loadPart D ?_)))))))
 have key:(!es.toArray.any (·.key.isStr name)&&es.toArray.any (·.refKey))=false:=by
  rw[List.any_toArray,List.any_toArray]
  unfold getL at hl
  split at hl
  ·rename_i en he
   rw[List.any_eq_true.mpr ⟨en,List.mem_of_find?_eq_some he,List.find?_some he⟩];rfl
  ·split at hl
   ·exact nft hl
   ·rename_i z;rw[Bool.not_eq_true]at z;rw[z,Bool.and_false]
 dsimp only
 rw[aRefKeyMayBeTheName_at,key]
 refine wpAny_updatePart D ?_
 refine wpAny_bind (wpAny_lookBehind D' (pastItsLine_dict (by rw[List.size_toArray,sizeLine_eq];lia)) ?_)
 exact wpAny_pure (h _ (Heap.SameBut.update ..) D')
end
section
variable{c:Cfg prog w}{ec:Env→Prop}{nl:List Str}{d:Nat}
noncomputable def clsSet(K:Frag)(C:Addr)(name:Str):Bool:=(findIn K (.ref C) "__setattr__"==some (some (.builtin "object.__setattr__")))&&plainOver K C&&(takerIn K C name==some none)&&hasDictIn K C
theorem putL_length(name:Str)(hsh:Int)(k v:Value):∀es:List DictEntry,(putL name hsh k v es).length≤es.length+1
 | []=>by simp[putL]
 |e::r=>by
  unfold putL
  split
  ·simp
  ·have:=putL_length name hsh k v r
   simp;omega
theorem NsR.length{n:Nat}{ρ:Nat→Addr}{h:Heap}{es:List (List Nat×V)}{des:List DictEntry}(x:NsR n ρ h es des):des.length=es.length:=by
 induction x with
 |nil=>rfl
 |cons _ _ _ _ _ _ ih=>simp[ih]
noncomputable def setN(C0:Addr)(name:List Nat)(v x:V):M Unit:=λst=>match rdN C0 v st with
 |some r=>match lk r.1 st.H with
  |some _=>match Nat.ble r.2.length 100 with
   |true=>some ((),{st with H:=up r.1 (.ns (upS name x r.2)) st.H})
   |false=>none
  |none=>none
 |none=>none
theorem setN_inv{C0:Addr}{name:List Nat}{v x:V}{st:St}{r:Unit×St}(e:setN C0 name v x st=some r):∃q o,rdN C0 v st=some q∧lk q.1 st.H=some o∧q.2.length≤100∧r=((),{st with H:=up q.1 (.ns (upS name x q.2)) st.H}):=by
 unfold setN at e
 cases q1:rdN C0 v st with
 |none=>rw[q1]at e;exact nos e
 |some q=>
  rw[q1]at e
  dsimp only at e
  cases q2:lk q.1 st.H with
  |none=>rw[q2]at e;exact nos e
  |some o=>
   rw[q2]at e
   dsimp only at e
   cases q3:Nat.ble q.2.length 100 with
   |false=>rw[q3]at e;exact nos e
   |true=>rw[q3]at e;obtain rfl:=sin e;exact I24 q o rfl q2 (Nat.le_of_ble_eq_true q3) rfl
theorem setattr_sem(C:c.Ok){A:Around}{C0:Addr}{name:Str}{l0:List Nat}{ρ:Nat→Addr}{st st':St}{v x:V}{v' x':Value}{s:Shared}{Q:Unit→Shared→Prop}{E:Value→Shared→Prop}(R:RelH c ρ st s.heap)(rv:VR st.n ρ s.heap v v')(rx:VR st.n ρ s.heap x x')
 (hl:name.cps.toList=l0) (hc:clsSet c.KS C0 name=true) (h0:setN C0 l0 v x st=some ((),st'))
 (hQ:∀h' tk,Nx c NoA ρ st s.heap ρ st' h'→RelH c ρ st' h'→Q () {s with heap:=h',toks:=tk}):wpAny (model prog w) A (setAttr v' name x') Q E s:=by
 refine bc λhno=>?_;refine E24 (setN_inv h0) λq o h1 h2 h3 e=>?_
 refine E02 (Prod.mk.inj e) λ_ q9666=>?_;subst q9666
 refine E35 (inst_at R rv h1) λa des m q9673 e1 e2 ns I=>?_;subst q9673
 unfold clsSet at hc
 simp only[Bool.and_eq_true]at hc
 refine E02 hc λy9694 c4=>?_;clear hc;refine E02 y9694 λy96941 c3=>?_;obtain⟨c1,c2⟩:=y96941
 have g:=ns.get name hl
 have hsome:(getL name des).isSome=true:=by
  cases z:lkS l0 q.2 with
  |none=>rw[z]at g;rw[g];rfl
  |some y=>rw[z]at g;refine E12 g λy' hy _=>?_;clear g;rw[hy];rfl
 refine hno ?_;refine set_plain R.ks I (beq_iff_eq.mp c1) ?_
 refine osa_same (s:={s with toks:=s.toks+1}) R.ks I rfl c2 (beq_iff_eq.mp c3) c4 hsome ?_ λh' hs hn=>?_
 ·have:=putL_length name (PyData.keyHash w.params name) (.str name (s.toks+1)) x' des
  have:=ns.length
  dsimp only;lia
 ·refine bc λhno=>?_;refine E13 (rdN_inv h1) λk _ hk1 hk2=>?_
  have hH:rdO q.1 st=lk q.1 st.H:=by unfold rdO;rw[h2]
  rw[hH]at hk2
  refine E05 (R.stat C hs (R.low q.1 ⟨_,hk2⟩) (R.obj _ _ hk2).ex) λs1 s2 s3 s4 T=>?_
  have hO:OAt prog w st.n ρ h' (ρ q.1) (.ns (upS l0 x q.2)):=⟨_,_,hn,(ns.put name hl _ _ rx).tr (T _)⟩
  refine hno ?_;exact hQ h' _ (.upd C R hk2 hs hO) (R.upd C hk2 hs hO)
noncomputable def atA(C0:Addr)(name:List Nat)(f:Loc→M V):V→Loc→M Loc:=λx l=>do
 let v ←f l
 setN C0 name v x
 pure l
theorem SemA.attr{o:Expr}{name:Str}{l0:List Nat}{pos:Pos}{C0:Addr}{f:Loc→M V}(C:c.Ok)(h:SemE c ec nl d o f)(hl:name.cps.toList=l0)(hc:clsSet c.KS C0 name=true):SemA c ec nl d FPe (.Attribute o name pos) (atA C0 l0 f):=by
 intro A env l ρ st x l' st' x' s Q E he hA R X rx h0 hQ
 refine bc λhno=>?_;refine E22 (mbind h0) λv st₁ hf hr=>?_
 clear h0
 refine E22 (mbind hr) λu st₂ hs hr1=>?_
 refine E02 (Prod.mk.inj (mpure hr1)) λq9890 q9891=>?_;clear hr hr1;subst q9890;subst q9891
 refine hno ?_;rw[arm_assign_Attribute]
 refine wpAny_bind (wpAny_holding (h A env l' ρ st v st₁ s _ E he hA R X hf λρ₁ h₁ tk₁ v' N₁ R₁ X₁ rv=>?_))
 refine wpAny_bind (wpAny_standAt (wpAny_bind (wpAny_holding ?_)))
 refine setattr_sem (s:={s with heap:=h₁,toks:=tk₁}) C R₁ rv (rx.tr N₁.tr) hl hc hs λh₂ tk₂ N₂ R₂=>?_
 have N:=N₁.trans R R₁ N₂ λ_ q=>q.elim
 exact wpAny_release' (hQ ρ₁ h₂ tk₂ (N.wide λ_ q=>q.elim) R₂ (X₁.nx C R₁ R₂ N₂))
end
end
section
variable{prog:Program}{w:World}
section
variable{c:Cfg prog w}{ec:Env→Prop}{nl:List Str}{d:Nat}
theorem sub_tail{A:Around}{E:Value→Shared→Prop}{s:Shared}{value slice:Expr}{o i:Value}{T id:String}{ops:List Value}{Q:Value→Shared→Prop}(hT:s.TypeIs o T)
 (hl:typeLookup (.type T) "__getitem__"=pure (some (.builtin id))) (h:wpAny (model prog w) A (getItem o i) Q E s) (hs:subscripted slice false o i=operate ops (getItem o i)):
 wpAny (model prog w) A (subscriptTail value slice o i) Q E s:=by
 unfold subscriptTail
 refine wpAny_bind ?_
 rw[getitemInPython_of_ne hT.not_modules]
 refine wpAny_bind (wpAny_specialOf hT hl ?_)
 have fin:wpAny (model prog w) A (subscripted slice false o i) (λr s₃=>wpAny (model prog w) A (letTemporaryGo value o r >>= λ_=>pure r) Q E s₃) E s:=by
  rw[hs]
  exact wpAny_operating (wpAny_mono h (λr s₃ h₃=>wpAny_bind (wpAny_letTemporaryGo (wpAny_pure h₃))) λ_ _ x=>x)
 first
  |exact wpAny_pure (wpAny_bind fin)
  |exact wpAny_bind (wpAny_pure (wpAny_bind fin))
  |exact wpAny_bind fin
noncomputable def lkI{α:Type}(k:Int):List (Int×α)→Option α
 | []=>none
 |p::r=>match decide (p.1=k) with
  |true=>some p.2
  |false=>lkI k r
theorem KVR.getI{n:Nat}{ρ:Nat→Addr}{h:Heap}{es:List (Int×V)}{kvs:List (Int×Value)}(x:KVR n ρ h es kvs)(k:Int):match lkI k es with
 |some v=>∃v',valueAt kvs k=some v'∧VR n ρ h v v'
 |none=>valueAt kvs k=none:=by
 unfold valueAt
 induction x with
 |nil=>rfl
 |cons v _ ih=>
  rename_i k0 v0 v0' es0 r0 _
  unfold lkI
  rw[List.find?_cons]
  dsimp only
  cases hd:decide (k0=k) with
  |true=>exact I12 v0' rfl v
  |false=>exact ih
theorem eqL_dec(a b:Str):eqL a.cps.toList b.cps.toList=decide (a=b):=by
 by_cases h:a=b
 ·rw[h,decide_eq_true rfl];exact(eqL_iff _ _).mpr rfl
 ·rw[decide_eq_false h]
  exact Bool.eq_false_iff.mpr λq=>h (Str.ext ((eqL_iff _ _).mp q))
theorem KVR.getS{n:Nat}{ρ:Nat→Addr}{h:Heap}{es:List (List Nat×V)}{kvs:List (Str×Value)}(x:KVR n ρ h es (kvs.map λp=>(p.1.cps.toList,p.2)))(k:Str):match lkS k.cps.toList es with
 |some v=>∃v',valueAt kvs k=some v'∧VR n ρ h v v'
 |none=>valueAt kvs k=none:=by
 induction kvs generalizing es with
 |nil=>rw[x.inv0];rfl
 |cons p r ih=>
  refine E23 x.inv1 λv es1 q rv rs=>?_;subst q
  have:=ih rs
  unfold lkS valueAt
  rw[List.find?_cons]
  dsimp only
  rw[eqL_dec]
  cases hd:decide (p.1=k) with
  |true=>exact I12 p.2 rfl rv
  |false=>exact this
noncomputable def fit63(k:Int):Bool:=decide (-(2 ^ 63)≤k)&&decide (k<2 ^ 63)
theorem fit63_iff{k:Int}(h:fit63 k=true): -(2 ^ 63)≤k∧k<2 ^ 63:=by
 unfold fit63 at h
 rw[Bool.and_eq_true]at h
 exact⟨of_decide_eq_true h.1,of_decide_eq_true h.2⟩
noncomputable def ixL{α:Type}(xs:List α)(k:Int):Option α:=match fit63 k with
 |true=>match seqIndex? k xs.length with
  |some j=>xs[j]?
  |none=>none
 |false=>none
theorem ixL_inv{α:Type}{xs:List α}{k:Int}{x:α}(h:ixL xs k=some x): -(2 ^ 63)≤k∧k<2 ^ 63∧∃j,seqIndex? k xs.length=some j∧xs[j]? =some x:=by
 unfold ixL at h
 cases q:fit63 k with
 |false=>rw[q]at h;exact nos h
 |true=>
  rw[q]at h
  dsimp only at h
  cases q2:seqIndex? k xs.length with
  |none=>rw[q2]at h;exact nos h
  |some j=>rw[q2]at h;exact⟨(fit63_iff q).1,(fit63_iff q).2,j,rfl,h⟩
noncomputable def getO(o:AO)(i:V):Option V:=match o with
 |.list xs=>match i with
  |.int k=>ixL xs k
  |_=>none
 |.idt es=>match i with
  |.int k=>lkI k es
  |_=>none
 |.sd es=>match i with
  |.str x=>lkS x es
  |_=>none
 |_=>none
noncomputable def getOV(SR:List (Nat×AO))(v i:V)(st:St):Option V:=match rdV SR v st with
 |some o=>getO o i
 |none=>none
noncomputable def getV(SR:List (Nat×AO))(v i:V)(st:St):Option V:=match v with
 |.tup vs=>match i with
  |.int k=>ixL vs k
  |_=>none
 |.str l=>match i with
  |.int k=>match ixL l k with
   |some x=>some (.str [x])
   |none=>none
  |_=>none
 |.ref k=>getOV SR (.ref k) i st
 |.adr a=>getOV SR (.adr a) i st
 |_=>none
noncomputable def getI(SR:List (Nat×AO))(v i:V):M V:=λst=>match getV SR v i st with
 |some x=>some (x,st)
 |none=>none
theorem getI_inv{SR:List (Nat×AO)}{v i:V}{st:St}{r:V×St}(e:getI SR v i st=some r):getV SR v i st=some r.1∧r.2=st:=by
 unfold getI at e
 cases q:getV SR v i st with
 |none=>rw[q]at e;exact nos e
 |some x=>rw[q]at e;clear q;refine E02 (spi e) λq9946 q9947=>?_;clear e;subst q9946;subst q9947;exact⟨rfl,rfl⟩
theorem seqIndex_lt{k:Int}{n j:Nat}(h:seqIndex? k n=some j):j<n∧((0≤k∧j=k.toNat)∨(k<0∧ -(n:Int)≤k∧j=(k+n).toNat)):=by
 unfold seqIndex? at h
 dsimp only at h
 split at h
 ·rename_i hneg
  split at h
  ·rename_i hb
   simp only[Bool.and_eq_true,decide_eq_true_eq]at hb
   obtain rfl:=sin h
   exact⟨by omega,.inr ⟨hneg,by omega,rfl⟩⟩
  ·exact nos h
 ·rename_i hneg
  split at h
  ·rename_i hb
   simp only[Bool.and_eq_true,decide_eq_true_eq]at hb
   obtain rfl:=sin h
   exact⟨by omega,.inl ⟨by omega,rfl⟩⟩
  ·exact nos h
theorem getO_inv{o:AO}{i v:V}(e:getO o i=some v):(∃xs k,o=.list xs∧i=.int k∧ixL xs k=some v)∨(∃es k,o=.idt es∧i=.int k∧lkI k es=some v)∨∃es x,o=.sd es∧i=.str x∧lkS x es=some v:=by
 refine bc λhno=>?_
 generalize h1:o=o1 at e
 generalize h2:i=i1 at e
 cases o1 with
 |list xs=>cases i1 with
  |int k=>exact hno (.inl ⟨xs,k,h1,h2,e⟩)
  |_=>exact nos e
 |idt es=>cases i1 with
  |int k=>exact hno (.inr (.inl ⟨es,k,h1,h2,e⟩))
  |_=>exact nos e
 |sd es=>cases i1 with
  |str x=>exact hno (.inr (.inr ⟨es,x,h1,h2,e⟩))
  |_=>exact nos e
 |_=>exact nos e
theorem getV_inv{SR:List (Nat×AO)}{a i v:V}{st:St}(e:getV SR a i st=some v):(∃vs k,a=.tup vs∧i=.int k∧ixL vs k=some v)∨(∃l k x,a=.str l∧i=.int k∧ixL l k=some x∧v=.str [x])∨∃o,rdV SR a st=some o∧getO o i=some v:=by
 have ov:getOV SR a i st=some v→∃o,rdV SR a st=some o∧getO o i=some v:=λh=>by
  unfold getOV at h
  cases q:rdV SR a st with
  |none=>rw[q]at h;exact nos h
  |some o=>rw[q]at h;exact⟨o,rfl,h⟩
 refine bc λhno=>?_
 generalize h1:a=a1 at e ov
 generalize h2:i=i1 at e ov
 cases a1 with
 |tup vs=>cases i1 with
  |int k=>exact hno (.inl ⟨vs,k,h1,h2,e⟩)
  |_=>exact nos e
 |str l=>cases i1 with
  |int k=>
   have e':(match ixL l k with|some x=>some (V.str [x])|none=>none)=some v:=e
   clear e ov
   cases q:ixL l k with
   |none=>rw[q]at e';exact nos e'
   |some x=>rw[q]at e';exact hno (.inr (.inl ⟨l,k,x,h1,h2,q,sni e'⟩))
  |_=>exact nos e
 |ref k=>exact hno (.inr (.inr (h1▸h2▸ov e)))
 |adr a=>exact hno (.inr (.inr (h1▸h2▸ov e)))
 |_=>exact nos e
theorem VRs.ixL{n:Nat}{ρ:Nat→Addr}{h:Heap}{vs:List V}{its:Array Value}{k:Int}{v:V}(rs:VRs n ρ h vs its.toList)(q:ixL vs k=some v): -(2 ^ 63)≤k∧k<2 ^ 63∧its.size=vs.length∧∃j x,seqIndex? k vs.length=some j∧its[j]? =some x∧VR n ρ h v x:=by
 refine E03 (ixL_inv q) λh1 h2 y=>?_
 refine E12 y λj h3 h4=>?_
 have g:=rs.getA (i:=j)
 rw[h4]at g
 exact E12 g λx hx rx=>⟨h1,h2,rs.length,j,x,h3,hx,rx⟩
theorem getI_sem(S:SRok c){value slice:Expr}(hs:∀o i,subscripted slice false o i=operate [o,i] (getItem o i)):SemOp c d (subscriptTail value slice) (getI c.SR):=by
 intro A ρ st a b v st' a' b' s Q E hA R ra rb h00 hQ
 refine E02 (getI_inv h00) λh0 h1=>?_
 clear h00 hA
 have h1:st'=st:=h1
 subst h1
 have fin:∀tk x,VR st'.n ρ s.heap v x→Q x {s with toks:=tk}:=λtk x rx=>hQ ρ s.heap tk x .refl R rx
 clear hQ
 rcases getV_inv h0 with y|y|y
 ·refine E23 y λvs k e1 e2 q=>?_;clear S h0 y R;subst e1;subst e2
  refine E23 ra.inv λad its e ht rs=>?_;clear ra;subst e
  refine E11 rb.inv λt e=>?_;clear rb;subst e
  refine E04 (rs.ixL q) λh1 h2 hlen y=>?_;clear q
  refine E23 y λj x h3 hx rx=>?_;clear y
  exact sub_tail ht.typeIs slot_tuple_getitem.lookup (PyProof.Rows.getItem_tuple (items:=its) ht h1 h2 (by rw[hlen];exact h3) hx (fin _ x rx)) (hs _ _)
 ·refine E34 y λl k x e1 e2 q e3=>?_;clear S h0 y R;subst e1;subst e2;subst e3
  refine E22 ra.inv λz t e hz=>?_;clear ra;subst e;subst hz
  refine E11 rb.inv λu e=>?_;clear rb;subst e
  refine E03 (ixL_inv q) λh1 h2 y=>?_;clear q
  refine E12 y λj h3 h4=>?_;clear y
  refine sub_tail (typeIs_str s z t) slot_str_getitem.lookup (PyProof.Rows.getItem_str (c:=x) ?_ ?_ (fin _ _ (.str _ _ rfl))) (hs _ _)
  ·simp only[Bool.or_eq_false_iff,decide_eq_false_iff_not];exact⟨Int.not_lt.mpr h1,Int.not_le.mpr h2⟩
  ·rw[show z.length=z.cps.toList.length from(Array.length_toList ..).symm,h3]
   simpa using h4
 ·refine E12 y λo ho hv=>?_;clear y h0
  refine E12 (R.rdV S ra ho) λad e hat=>?_;clear ra ho R S;subst e
  rcases getO_inv hv with y|y|y
  ·refine E23 y λxs k e1 e2 q=>?_;clear y hv;subst e1;subst e2
   refine E11 rb.inv λt e=>?_;clear rb;subst e
   refine E22 hat λits m hl rs=>?_;clear hat
   have hL:s.heap.IsList ad its:=⟨_,hl,rfl,m,rfl⟩
   refine E04 (rs.ixL q) λh1 h2 hlen y=>?_;clear q
   refine E23 y λj x h3 hx rx=>?_;clear y
   refine sub_tail hL.typeIs slot_list_getitem.lookup ?_ (hs _ _)
   have f:=fin s.toks x rx
   clear fin rs rx hl
   rcases(seqIndex_lt h3).2 with⟨hk,e⟩|⟨hk,hk2,e⟩
   ·subst e;exact wpAny_getItem_list hL hk h2 hx f
   ·subst e;exact wpAny_getItem_list_neg hL hk (by rw[hlen];exact hk2) h1 (by rw[hlen];exact hx) f
  ·refine E23 y λes k e1 e2 q=>?_;clear y hv;subst e1;subst e2
   refine E11 rb.inv λt e=>?_;clear rb;subst e
   refine E02 hat λ_ y=>?_;clear hat
   refine E12 y λkvs hd kv=>?_;clear y
   have g:=kv.getI k
   rw[q]at g
   refine E12 g λx hx rx=>?_;clear g
   exact sub_tail hd.typeIs slot_dict_getitem.lookup (wpAny_getItem_of (intKind_is prog w k t) hd.mapOf hx (fin _ x rx)) (hs _ _)
  ·refine E23 y λes l e1 e2 q=>?_;clear y hv;subst e1;subst e2
   refine E22 rb.inv λz t e hz=>?_;clear rb;subst e;subst hz
   refine E02 hat λ_ y=>?_;clear hat
   refine E12 y λkvs hd kv=>?_;clear y
   have g:=kv.getS z
   rw[q]at g
   refine E12 g λx hx rx=>?_;clear g
   exact sub_tail hd.typeIs slot_dict_getitem.lookup (wpAny_getItem_of (strKind_is prog w z t) hd.mapOf hx (fin _ x rx)) (hs _ _)
theorem SemE.sub{e₁ e₂:Expr}{pos:Pos}{f g:Loc→M V}(C:c.Ok)(S:SRok c)(h₁:SemE c ec nl d e₁ f)(h₂:SemE c ec nl d e₂ g)(hs:∀o i,subscripted e₂ false o i=operate [o,i] (getItem o i)):
 SemE c ec nl d (.Subscript e₁ e₂ pos) (λl=>do let a ←f l;let b ←g l;getI c.SR a b):=by
 intro A env l ρ st v st' s Q E he hA R X h0 hQ
 refine E22 (mbind h0) λa st₁ hf hr=>?_
 clear h0
 refine E22 (mbind hr) λb st₂ hg hr1=>?_
 exact Subscript_ (h₁.two h₂ C he hA R X hf hg λρ' h' tk a' b' N R' X' ra rb=>
  getI_sem S hs A ρ' st₂ a b v st' a' b' {s with heap:=h',toks:=tk} Q E hA R' ra rb hr1 λρ'' h'' tk' v' N' R'' rv=>
   hQ ρ'' h'' tk' v' (N.trans R R' N' λ_ q=>q.elim) R'' (X'.nx C R' R'' N') rv)
end
end
section
variable{prog:Program}{w:World}
section
variable{A:Around}{E:Value→Shared→Prop}{s:Shared}
theorem setItem_plainL{l:Addr}{items:Array Value}{n:Nat}{k:Int}{t:Tok}{v:Value}{Q:Unit→Shared→Prop}(ho:s.heap.get? l=some {cls:=.type "list",data:=.seq items n})
 (h0:0≤k) (hfit:k<2 ^ 63) (hn:k<items.size)
 (hQ:∀h' m,h'.get? l=some {cls:=.type "list",data:=.seq (items.setIfInBounds k.toNat v) m}→Heap.SameBut l s.heap h'→Q () {s with heap:=h'}):
 wpAny (model prog w) A (setItem (.ref l) (.int k t) v) Q E s:=by
 have hT:s.TypeIs (.ref l) "list":=⟨_,ho,rfl⟩
 unfold setItem
 try with_reducible refine wpAny_holding ?_
 first|refine wpAny_bind (wpAny_pure ?_)|skip
 refine wpAny_bind (wpAny_sequenceKey hT (by decide) ?_)
 refine wpAny_bind (wpAny_callSpecial?_slot (name:=Str.ofString "__setitem__") hT slot_list_setitem
  (wpAny_call_entry slot_list_setitem hT entry_list_setitem ?_ (args_list_setitem _ _ _)))
 show wpAny _ _ (Builtin.List.listSubscript? (.int k t) >>= _) _ _ s
 refine wpAny_bind (wpAny_listSubscript_int (fitsIndex_of h0 hfit) ?_)
 clear hfit
 obtain⟨j,rfl⟩:=Int.eq_ofNat_of_zero_le h0
 have hj:j<items.size:=by lia
 have hx':items[j]? =some items[j]:=Array.getElem?_eq_getElem hj
 show wpAny _ _ ((seqItemAt l j >>= λr=>pure (r.map (j,·))) >>= _) _ _ s
 refine wpAny_bind (wpAny_bind (wpAny_seqItemAt ho rfl (wpAny_pure ?_)))
 rw[hx']
 show wpAny _ _ (setSeqItemAt l j v >>= _) _ _ s
 have hfin:(s.heap.update l (Obj.mapSeq (·.setIfInBounds j v))).get? l=some {cls:=.type "list",data:=.seq (items.setIfInBounds j v) (if (items.setIfInBounds j v).size==items.size then n else n+1)}:=
  Heap.get?_update_self _ ho rfl
 refine wpAny_bind (wpAny_setSeqItemAt ho rfl ?_)
 first
  |exact wpAny_bind (wpAny_pure (wpAny_pure ⟨.none,rfl,wpAny_pure (hQ _ _ hfin (Heap.SameBut.update ..))⟩))
  |exact wpAny_pure ⟨.none,rfl,wpAny_pure (hQ _ _ hfin (Heap.SameBut.update ..))⟩
end
section
variable{c:Cfg prog w}{ec:Env→Prop}{nl:List Str}{d:Nat}
noncomputable def upI{α:Type}(k:Int)(v:α):List (Int×α)→List (Int×α)
 | []=>[(k,v)]
 |p::r=>match decide (p.1=k) with
  |true=>(p.1,v)::r
  |false=>p::upI k v r
noncomputable def intsV:List V→Option (List Int)
 | []=>some []
 |.int i::r=>match intsV r with
  |some l=>some (i::l)
  |none=>none
 |_=>none
noncomputable def eqZ:List Int→List Int→Bool
 | [],[]=>true
 |a::l,b::r=>match decide (a=b) with
  |true=>eqZ l r
  |false=>false
 |_,_=>false
theorem eqZ_iff(a b:List Int):eqZ a b=true↔a=b:=by
 induction a generalizing b with
 |nil=>cases b with
  |nil=>exact⟨λ_=>rfl,λ_=>rfl⟩
  |cons _ _=>exact⟨λh=>nft h,λh=>nomatch h⟩
 |cons a l ih=>cases b with
  |nil=>exact⟨λh=>nft h,λh=>nomatch h⟩
  |cons b r=>
   show(match decide (a=b)with|true=>eqZ l r|false=>false)=true↔_
   cases q:decide (a=b) with
   |true=>exact⟨λh=>by rw[of_decide_eq_true q,(ih r).mp h],λh=>(ih r).mpr (List.cons.inj h).2⟩
   |false=>exact⟨λh=>nft h,λh=>absurd (List.cons.inj h).1 (of_decide_eq_false q)⟩
theorem eqZ_dec(a b:List Int):eqZ a b=decide (a=b):=by
 cases h:eqZ a b with
 |true=>rw[(eqZ_iff a b).mp h,decide_eq_true rfl]
 |false=>rw[decide_eq_false];intro e;rw[(eqZ_iff a b).mpr e]at h;exact ntf h
noncomputable def lkT{α:Type}(k:List Int):List (List Int×α)→Option α
 | []=>none
 |p::r=>match eqZ p.1 k with
  |true=>some p.2
  |false=>lkT k r
noncomputable def upT{α:Type}(k:List Int)(v:α):List (List Int×α)→List (List Int×α)
 | []=>[(k,v)]
 |p::r=>match eqZ p.1 k with
  |true=>(p.1,v)::r
  |false=>p::upT k v r
noncomputable def setO(o:AO)(i x:V):Option AO:=match o with
 |.list xs=>match i with
  |.int k=>match decide (0≤k)&&decide (k<(xs.length:Int))&&Nat.ble xs.length 100000 with
   |true=>some (.list (xs.set k.toNat x))
   |false=>none
  |_=>none
 |.idt es=>match i with
  |.int k=>match Nat.ble es.length 1000 with
   |true=>some (.idt (upI k x es))
   |false=>none
  |_=>none
 |.sd es=>match i with
  |.str k=>match Nat.ble es.length 1000 with
   |true=>some (.sd (upS k x es))
   |false=>none
  |_=>none
 |.td es=>match i with
  |.tup vs=>match intsV vs with
   |some ks=>match Nat.ble es.length 1000 with
    |true=>some (.td (upT ks x es))
    |false=>none
   |none=>none
  |_=>none
 |_=>none
noncomputable def setI(v i x:V):M Unit:=match v with
 |.ref k=>λst=>match lk k st.H with
  |some o=>match setO o i x with
   |some o'=>some ((),{st with H:=up k o' st.H})
   |none=>none
  |none=>none
 |_=>fail
theorem setI_inv{v i x:V}{st:St}{r:Unit×St}(e:setI v i x st=some r):∃k o o',v=.ref k∧lk k st.H=some o∧setO o i x=some o'∧r=((),{st with H:=up k o' st.H}):=by
 cases v with
 |ref k=>
  have e':(match lk k st.H with
   |some o=>match setO o i x with
    |some o'=>some ((),{st with H:=up k o' st.H})
    |none=>none
   |none=>none)=some r:=e
  clear e
  cases q:lk k st.H with
  |none=>rw[q]at e';exact nos e'
  |some o=>
   rw[q]at e'
   dsimp only at e'
   cases q2:setO o i x with
   |none=>rw[q2]at e';exact nos e'
   |some o'=>rw[q2]at e';exact⟨k,o,o',rfl,q,q2,sni e'⟩
 |_=>exact nos e
theorem VRs.set{n:Nat}{ρ:Nat→Addr}{h:Heap}{xs:List V}{ys:List Value}(r:VRs n ρ h xs ys){x:V}{y:Value}(rx:VR n ρ h x y):∀j:Nat,VRs n ρ h (xs.set j x) (ys.set j y):=
 r.ind (P:=λxs ys=>∀j:Nat,VRs n ρ h (xs.set j x) (ys.set j y)) (λ_=>.nil) λa r b j=>match j with
   |0=>.cons rx r
   |j+1=>.cons a (b j)
theorem stored_ne{K:Type}[DecidableEq K]{k0 k:K}{v y:Value}{r:List (K×Value)}(h:k0≠k):stored ((k0,v)::r) k y=(k0,v)::stored r k y:=by
 unfold stored
 rw[List.any_cons]
 simp only[decide_eq_false h,Bool.false_or]
 by_cases q:(r.any λkv=>decide (kv.1=k))=true
 ·rw[if_pos q,if_pos q,List.map_cons,if_neg h]
 ·rw[if_neg q,if_neg q];rfl
theorem stored_eq{K:Type}[DecidableEq K]{k:K}{v y:Value}{r:List (K×Value)}(h:k∉r.map (·.1)):stored ((k,v)::r) k y=(k,y)::r:=by
 unfold stored
 rw[List.any_cons]
 simp only[decide_true,Bool.true_or,if_true,List.map_cons]
 congr 1
 clear v
 induction r with
 |nil=>rfl
 |cons p r ih=>
  simp only[List.map_cons,List.mem_cons,not_or]at h
  rw[List.map_cons,if_neg (λe=>h.1 e.symm),ih h.2]
theorem KVR.putI{n:Nat}{ρ:Nat→Addr}{h:Heap}{es:List (Int×V)}{kvs:List (Int×Value)}(r:KVR n ρ h es kvs)(k:Int){x:V}{y:Value}(rx:VR n ρ h x y)(hn:(kvs.map (·.1)).Nodup):KVR n ρ h (upI k x es) (stored kvs k y):=by
 induction r with
 |nil=>exact .cons rx .nil
 | @cons k0 v0 v0' es0 r0 v r ih=>
   have hn:=List.nodup_cons.mp hn
   show KVR n ρ h (match decide (k0=k)with|true=>(k0,x)::es0|false=>(k0,v0)::upI k x es0) _
   by_cases hd:k0=k
   ·rw[decide_eq_true hd]
    clear v ih;subst hd
    rw[stored_eq hn.1]
    exact .cons rx r
   ·rw[decide_eq_false hd,stored_ne hd]
    exact .cons v (ih hn.2)
theorem KVR.putS{n:Nat}{ρ:Nat→Addr}{h:Heap}{es:List (List Nat×V)}{kvs:List (Str×Value)}(r:KVR n ρ h es (kvs.map λp=>(p.1.cps.toList,p.2)))(k:Str){x:V}{y:Value}(rx:VR n ρ h x y)(hn:(kvs.map (·.1)).Nodup):
 KVR n ρ h (upS k.cps.toList x es) ((stored kvs k y).map λp=>(p.1.cps.toList,p.2)):=by
 induction kvs generalizing es with
 |nil=>rw[r.inv0];exact .cons rx .nil
 |cons p q ih=>
  refine E23 r.inv1 λv es1 e rv rs=>?_;clear r;subst e
  have hn:=List.nodup_cons.mp hn
  show KVR n ρ h (match eqL p.1.cps.toList k.cps.toList with|true=>(p.1.cps.toList,x)::es1|false=>(p.1.cps.toList,v)::upS k.cps.toList x es1) _
  rw[eqL_dec]
  by_cases hd:p.1=k
  ·rw[decide_eq_true hd,←hd,show stored (p::q) p.1 y=(p.1,y)::q from stored_eq hn.1]
   exact .cons rx rs
  ·rw[decide_eq_false hd,show stored (p::q) k y=p::stored q k y from stored_ne hd]
   exact .cons rv (ih rs hn.2)
theorem DictOf.nodup{K:Type}[DecidableEq K]{knd:KeyKind prog w K}{h:Heap}{a:Addr}{kvs:List (K×Value)}(x:h.DictOf knd a kvs):(kvs.map (·.1)).Nodup:=E36 x λ_ _ _ _ _ _ _ _ q=>q
theorem KVR.length{K:Type}{n:Nat}{ρ:Nat→Addr}{h:Heap}{es:List (K×V)}{r:List (K×Value)}(x:KVR n ρ h es r):r.length=es.length:=by
 induction x with
 |nil=>rfl
 |cons _ _ ih=>exact congrArg (· +1) ih
theorem intsV_cons{v:V}{vs:List V}{ks:List Int}(e:intsV (v::vs)=some ks):∃i l,v=.int i∧intsV vs=some l∧ks=i::l:=by
 cases v with
 |int i=>
  have e':(match intsV vs with|some l=>some (i::l)|none=>none)=some ks:=e
  clear e
  cases q:intsV vs with
  |none=>rw[q]at e';exact nos e'
  |some l=>rw[q]at e';exact⟨i,l,rfl,rfl,sni e'⟩
 |_=>exact nos e
theorem intsV_items{n:Nat}{ρ:Nat→Addr}{h:Heap}{vs:List V}{ks:List Int}{ys:List Value}(e:intsV vs=some ks)(r:VRs n ρ h vs ys):ItemsAre (PySem.intKind prog w) ks ys:=by
 induction vs generalizing ks ys with
 |nil=>rw[←sin e,r.inv0];exact .nil
 |cons v vs ih=>
  refine E23 (intsV_cons e) λi l e1 q e2=>?_;subst e1;subst e2
  refine E23 r.inv1 λx ys e a b=>?_;subst e
  refine E11 a.inv λt e=>?_;rw[e]
  exact .cons (intKind_is prog w _ _) (ih q b)
theorem tup_key{n:Nat}{ρ:Nat→Addr}{h:Heap}{vs:List V}{ks:List Int}{a:Addr}(e:intsV vs=some ks)(r:VR n ρ h (.tup vs) (.ref a)):(PySem.tupleKind (PySem.intKind prog w)).is h ks a:=
 E23 r.inv λb items q ht rs=>E13 ht λo ho hc y=>E11 y λm hd=>⟨o,_,m,(Value.ref.inj q)▸ho,hc,hd,intsV_items e rs⟩
theorem atKey_ne{k0 k:List Int}{p:Addr×Value}{r:List (List Int×Addr×Value)}(h:k0≠k):atKey ((k0,p)::r) k=atKey r k:=by
 unfold atKey
 rw[List.find?_cons]
 simp only[decide_eq_false h]
theorem atKey_eq{k:List Int}{p:Addr×Value}{r:List (List Int×Addr×Value)}:atKey ((k,p)::r) k=some p:=by
 unfold atKey
 rw[List.find?_cons]
 simp
theorem KVR.getT{n:Nat}{ρ:Nat→Addr}{h:Heap}{es:List (List Int×V)}{xs:List (List Int×Addr×Value)}(r:KVR n ρ h es (xs.map λx=>(x.1,x.2.2)))(k:List Int):match lkT k es with
 |some v=>∃p,atKey xs k=some p∧VR n ρ h v p.2
 |none=>atKey xs k=none:=by
 induction xs generalizing es with
 |nil=>rw[r.inv0];rfl
 |cons p q ih=>
  refine E23 r.inv1 λv es1 e rv rs=>?_;clear r;subst e
  have:=ih rs
  unfold lkT
  dsimp only
  rw[eqZ_dec]
  by_cases hd:p.1=k
  ·rw[decide_eq_true hd,←hd]
   exact I12 p.2 (atKey_eq (k:=p.1)) rv
  ·rw[decide_eq_false hd,show atKey (p::q) k=atKey q k from atKey_ne hd]
   exact this
theorem KVR.putT{n:Nat}{ρ:Nat→Addr}{h:Heap}{es:List (List Int×V)}{xs:List (List Int×Addr×Value)}(r:KVR n ρ h es (xs.map λx=>(x.1,x.2.2)))(k:List Int)(a:Addr){x:V}{y:Value}(rx:VR n ρ h x y)(hn:(xs.map (·.1)).Nodup):
 KVR n ρ h (upT k x es) ((storedH xs k a y).map λx=>(x.1,x.2.2)):=by
 induction xs generalizing es with
 |nil=>rw[r.inv0];exact .cons rx .nil
 |cons p q ih=>
  refine E23 r.inv1 λv es1 e rv rs=>?_;clear r;subst e
  have hn:=List.nodup_cons.mp hn
  have ih:=ih rs hn.2
  show KVR n ρ h (match eqZ p.1 k with|true=>(p.1,x)::es1|false=>(p.1,v)::upT k x es1) _
  rw[eqZ_dec]
  by_cases hd:p.1=k
  ·rw[decide_eq_true hd,←hd,storedH_old (xs:=p::q) (atKey_eq (k:=p.1)),List.map_cons,map_putAt_of_not_mem _ _ _ hn.1]
   unfold putAt
   rw[if_pos rfl]
   exact .cons rx rs
  ·rw[decide_eq_false hd]
   have hz:atKey (p::q) k=atKey q k:=atKey_ne hd
   cases z:atKey q k with
   |none=>
    rw[storedH_new (hz.trans z)]
    rw[storedH_new z]at ih
    exact .cons rv ih
   |some p'=>
    rw[storedH_old (hz.trans z)]
    rw[storedH_old z]at ih
    rw[List.map_cons,List.map_cons,show putAt k y p=p from if_neg hd]
    exact .cons rv ih
theorem setO_inv{o o':AO}{i x:V}(e:setO o i x=some o'):(∃xs k,o=.list xs∧i=.int k∧0≤k∧k<(xs.length:Int)∧xs.length≤100000∧o'=.list (xs.set k.toNat x))∨(∃es k,o=.idt es∧i=.int k∧es.length≤1000∧o'=.idt (upI k x es))∨
 (∃es k,o=.sd es∧i=.str k∧es.length≤1000∧o'=.sd (upS k x es))∨∃es vs ks,o=.td es∧i=.tup vs∧intsV vs=some ks∧es.length≤1000∧o'=.td (upT ks x es):=by
 have g:∀ {b:Bool} {o1:AO},(match b with|true=>some o1|false=>none)=some o'→b=true∧o'=o1:=λ{b o1} h=>match b,h with
  |true,h=>⟨rfl,sni h⟩
  |false,h=>nos h
 refine bc λhno=>?_
 generalize h1:o=o1 at e
 generalize h2:i=i1 at e
 cases o1 with
 |list xs=>cases i1 with
  |int k=>
   refine E02 (g e) λhb e=>?_
   rw[Bool.and_eq_true,Bool.and_eq_true]at hb
   exact hno (.inl ⟨xs,k,h1,h2,of_decide_eq_true hb.1.1,of_decide_eq_true hb.1.2,Nat.le_of_ble_eq_true hb.2,e⟩)
  |_=>exact nos e
 |idt es=>cases i1 with
  |int k=>exact E02 (g e) λhb e=>hno (.inr (.inl ⟨es,k,h1,h2,Nat.le_of_ble_eq_true hb,e⟩))
  |_=>exact nos e
 |sd es=>cases i1 with
  |str k=>exact E02 (g e) λhb e=>hno (.inr (.inr (.inl ⟨es,k,h1,h2,Nat.le_of_ble_eq_true hb,e⟩)))
  |_=>exact nos e
 |td es=>cases i1 with
  |tup vs=>
   have e':(match intsV vs with|some ks=>(match Nat.ble es.length 1000 with|true=>some (AO.td (upT ks x es))|false=>none)|none=>none)=some o':=e
   clear e
   cases q:intsV vs with
   |none=>rw[q]at e';exact nos e'
   |some ks=>rw[q]at e';exact E02 (g e') λhb e=>hno (.inr (.inr (.inr ⟨es,vs,ks,h1,h2,q,Nat.le_of_ble_eq_true hb,e⟩)))
  |_=>exact nos e
 |_=>exact nos e
theorem size_ok{n:Nat}(h:n≤1000):n≤sizeLine:=by rw[sizeLine_eq];lia
theorem setI_sem(C:c.Ok){A:Around}(hA:AOk d A){ρ:Nat→Addr}{st st':St}{v i x:V}{v' i' x':Value}{s:Shared}{Q:Unit→Shared→Prop}{E:Value→Shared→Prop}(R:RelH c ρ st s.heap)(rv:VR st.n ρ s.heap v v')(ri:VR st.n ρ s.heap i i')(rx:VR st.n ρ s.heap x x')
 (h0:setI v i x st=some ((),st')) (hQ:∀h' tk,Nx c NoA ρ st s.heap ρ st' h'→RelH c ρ st' h'→Q () {s with heap:=h',toks:=tk}):wpAny (model prog w) A (setItem v' i' x') Q E s:=by
 refine E34 (setI_inv h0) λk o o' e1 hk ho e0=>?_
 have e2:=(Prod.mk.inj e0).2
 clear e0 h0;subst e1;subst e2
 have e:=rv.inv.1
 clear rv;subst e
 have fin:∀h' tk,Heap.SameBut (ρ k) s.heap h'→(Tr st.n ρ s.heap st.n ρ h'→OAt prog w st.n ρ h' (ρ k) o')→Q () {s with heap:=h',toks:=tk}:=λh' tk hs hO=>
  E05 (R.stat C hs (R.low k ⟨_,hk⟩) (R.obj k _ hk).ex) λ_ _ _ _ T=>hQ h' tk (.upd C R hk hs (hO (T _))) (R.upd C hk hs (hO (T _)))
 have hat:=R.obj k _ hk
 clear C R hk hQ
 rcases setO_inv ho with y|y|y|y
 ·refine E26 y λxs k' e1 e2 b1 b2 b3 e3=>?_;clear y ho hA;subst e1;subst e2;subst e3
  refine E11 ri.inv λt e=>?_;clear ri;subst e
  refine E22 hat λits m hl rs=>?_;clear hat
  have hlen:its.size=xs.length:=rs.length
  refine setItem_plainL hl b1 (by lia) (by lia) λh' m' hh' hs=>fin h' s.toks hs λT=>⟨_,m',hh',?_⟩
  rw[Array.toList_setIfInBounds]
  exact(rs.tr T).set (rx.tr T) _
 ·refine E24 y λes k' e1 e2 hb e3=>?_;clear y ho hA;subst e1;subst e2;subst e3
  refine E11 ri.inv λt e=>?_;clear ri;subst e
  refine E02 hat λhsys y=>?_;clear hat
  refine E12 y λkvs hd kv=>?_;clear y
  exact wpAny_setItem_pairs (intKind_is prog w k' t) hd (λh' hd' hs=>fin h' _ hs λT=>⟨hsys,_,hd',(kv.tr T).putI k' (rx.tr T) (DictOf.nodup hd)⟩) (size_ok (kv.length▸hb))
 ·refine E24 y λes l e1 e2 hb e3=>?_;clear y ho hA;subst e1;subst e2;subst e3
  refine E22 ri.inv λz t e hz=>?_;clear ri;subst e;subst hz
  refine E02 hat λhsys y=>?_;clear hat
  refine E12 y λkvs hd kv=>?_;clear y
  have hl:=kv.length
  rw[List.length_map]at hl
  exact wpAny_setItem_pairs (strKind_is prog w z t) hd (λh' hd' hs=>fin h' _ hs λT=>⟨hsys,_,hd',(kv.tr T).putS z (rx.tr T) (DictOf.nodup hd)⟩) (size_ok (hl▸hb))
 ·refine E35 y λes vs ks e1 e2 q hb e3=>?_;clear y ho;subst e1;subst e2;subst e3
  refine E02 hat λhsys y=>?_;clear hat
  refine E12 y λxs hd kv=>?_;clear y
  have hl:=kv.length
  rw[List.length_map]at hl
  refine E23 ri.inv λb _ e _ _=>?_;subst e
  exact wpAny_setItem_heap (knd:=PySem.tupleKind (PySem.intKind prog w)) (Nat.lt_of_le_of_lt (Nat.add_le_add_left (by decide) _) hA.units64) (tup_key q ri) hd (λh' hd' hs=>fin h' _ hs λT=>⟨hsys,_,hd',(kv.tr T).putT ks b (rx.tr T) (E36 hd λ_ _ _ _ _ _ _ _ z=>z)⟩) (size_ok (hl▸hb))
end
end
section
variable{prog:Program}{w:World}
section
variable{c:Cfg prog w}{ec:Env→Prop}{nl:List Str}{d:Nat}
noncomputable def subA(f g:Loc→M V):V→Loc→M Loc:=λx l=>do
 let v ←f l
 let i ←g l
 setI v i x
 pure l
theorem SemA.sub{o i:Expr}{pos:Pos}{f g:Loc→M V}(C:c.Ok)(h₁:SemE c ec nl d o f)(h₂:SemE c ec nl d i g):SemA c ec nl d FPe (.Subscript o i pos) (subA f g):=by
 intro A env l ρ st x l' st' x' s Q E he hA R X rx h0 hQ
 refine bc λhno=>?_;refine E22 (mbind h0) λv st₁ hf hr=>?_
 clear h0
 refine E22 (mbind hr) λiv st₂ hg hr1=>?_
 refine E22 (mbind hr1) λu st₃ hs hr11=>?_
 refine E02 (Prod.mk.inj (mpure hr11)) λq9183 q9184=>?_;clear hr hr1 hr11;subst q9183;subst q9184
 refine hno ?_;rw[arm_assign_Subscript]
 refine wpAny_bind (wpAny_holding (h₁ A env l' ρ st v st₁ s _ E he hA R X hf λρ₁ h₁ tk₁ v' N₁ R₁ X₁ rv=>?_))
 refine wpAny_bind (wpAny_holding (h₂ A env l' ρ₁ st₁ iv st₂ {s with heap:=h₁,toks:=tk₁} _ E he hA R₁ X₁ hg λρ₂ h₂ tk₂ i' N₂ R₂ X₂ ri=>?_))
 refine wpAny_bind (wpAny_standAt (wpAny_bind (wpAny_holding ?_)))
 refine setI_sem (s:={s with heap:=h₂,toks:=tk₂}) C hA R₂ (rv.tr N₂.tr) ri ((rx.tr N₁.tr).tr N₂.tr) hs λh₃ tk₃ N₃ R₃=>?_
 have N₁₂:=N₁.trans R R₁ N₂ λ_ q=>q.elim
 have N:=N₁₂.trans R R₂ N₃ λ_ q=>q.elim
 exact wpAny_release' (hQ ρ₂ h₃ tk₃ (N.wide λ_ q=>q.elim) R₃ (X₂.nx C R₂ R₃ N₃))
noncomputable def kdO:AO→Nat
 |.list _=>1
 |.sd _=>2
 |.idt _=>2
 |.td _=>2
 |_=>0
noncomputable def kdV(SR:List (Nat×AO))(t:Nat)(v:V):M Unit:=λst=>match rdV SR v st with
 |some o=>match Nat.beq (kdO o) t with
  |true=>some ((),st)
  |false=>none
 |none=>none
theorem kdV_inv{SR:List (Nat×AO)}{t:Nat}{v:V}{st:St}{r:Unit×St}(e:kdV SR t v st=some r):∃o,rdV SR v st=some o∧kdO o=t∧r=((),st):=by
 unfold kdV at e
 cases q:rdV SR v st with
 |none=>rw[q]at e;exact nos e
 |some o=>
  rw[q]at e
  dsimp only at e
  cases q2:Nat.beq (kdO o) t with
  |false=>rw[q2]at e;exact nos e
  |true=>rw[q2]at e;obtain rfl:=sin e;exact I13 o rfl (Nat.eq_of_beq_eq_true q2) rfl
noncomputable def kdT:Nat→String
 |1=>"list"
 |_=>"dict"
theorem kd_type{n:Nat}{ρ:Nat→Addr}{s:Shared}{a:Addr}{o:AO}{t:Nat}(x:OAt prog w n ρ s.heap a o)(h:kdO o=t)(h0:t≠0):s.TypeIs (.ref a) (kdT t)∧∃ob,s.heap.get? a=some ob∧ob.dict=none:=by
 refine bc λhno=>?_;cases o with
 |list xs=>refine E22 x λits m e _=>?_;clear x;clear h0;subst h;refine hno ?_;exact⟨⟨_,e,rfl⟩,_,e,rfl⟩
 |inst _ _=>refine hno ?_;exact absurd h.symm h0
 |ns _=>refine hno ?_;exact absurd h.symm h0
 |sd es=>refine E02 x λ_ y9463=>?_;clear x;refine E12 y9463 λkvs y9464 _=>?_;clear y9463;refine E33 y9464 λob es' ep e hx _=>?_;clear y9464;clear h0;subst h;refine hno ?_;exact⟨⟨_,e,hx.1⟩,_,e,hx.2.1⟩
 |idt es=>refine E02 x λ_ y9470=>?_;clear x;refine E12 y9470 λkvs y9471 _=>?_;clear y9470;refine E33 y9471 λob es' ep e hx _=>?_;clear y9471;clear h0;subst h;refine hno ?_;exact⟨⟨_,e,hx.1⟩,_,e,hx.2.1⟩
 |td es=>refine E02 x λ_ y9477=>?_;clear x;refine E12 y9477 λkvs y9478 _=>?_;clear y9477;refine E33 y9478 λob es' ep e hx _=>?_;clear y9478;clear h0;subst h;refine hno ?_;exact⟨⟨_,e,hx.1⟩,_,e,hx.2.1⟩
noncomputable def methB(SR:List (Nat×AO))(t:Nat)(f:Loc→M V)(fs:Loc→M (List V))(g:List V→M V):Loc→M V:=λl=>do
 let v ←f l
 kdV SR t v
 let vs ←fs l
 g (v::vs)
theorem SemE.methB{o:Expr}{name:Str}{apos pos:Pos}{args:List Expr}{t:Nat}{id:String}{f:Loc→M V}{fs:Loc→M (List V)}{g:List V→M V}(C:c.Ok)(S:SRok c)(ht:t≠0)(pa:PlainAttrs (kdT t))(slot:Slot (kdT t) name id)
 (hty:typeOf (.builtin id)=pure (.type "method_descriptor")) (hp:plainEs args=true) (ho:SemE c ec nl d o f) (ha:SemEs c ec nl d args fs) (hc:SemCall c d (.bi id) g)
 (he':∀env,∃pl,eval (.Call (.Attribute o name apos) args [] pos) env=(do
   let ov ←eval o env
   standAt apos.atName
   let(f,first) ←holding [ov] (getMethod ov name pl)
   callWith pos f first (backTo pos (starEach args env)) (backToKw pos (keywordEach [] env)))):
 SemE c ec nl d (.Call (.Attribute o name apos) args [] pos) (methB c.SR t f fs g):=by
 intro A env l ρ st v st' s Q E he hA R X h0 hQ
 refine bc λhno=>?_;refine E22 (mbind h0) λov st₁ hf hr=>?_
 clear h0
 refine E22 (mbind hr) λu st₂ hk hr2=>?_
 clear hr
 refine E22 (mbind hr2) λvs st₃ hs hr=>?_
 clear hr2
 refine E13 (kdV_inv hk) λao h1 h2 e=>?_
 refine E02 (Prod.mk.inj e) λ_ q9645=>?_;clear hk e;subst q9645
 refine E11 (he' env) λpl hev=>?_
 refine hno ?_;refine methodCall_KW (pl:=pl) ?_ hev
 refine ho A env l ρ st ov _ s _ E he hA R X hf λρ₁ h₁ tk₁ v' N₁ R₁ X₁ rv=>?_
 refine E12 (R₁.rdV S rv h1) λa q9673 hat=>?_;subst q9673
 refine E02 (kd_type (s:={s with heap:=h₁,toks:=tk₁}) hat h2 ht) λhT y9680=>?_;refine E12 y9680 λob e1 e2=>?_;clear y9680
 refine getMethod_builtin hT pa slot hty (λb z=>by cases z;exact⟨ob,e1,e2⟩) ?_
 exact callWith_sem (first:=[ov]) (s:={s with heap:=h₁,toks:=tk₁}) C (Keep.bi (id:=id)) hp ha hc he hA R₁ X₁ (.bi id) (.cons rv .nil) hs hr λρ₂ h₂ tk₂ v' N₂ R₂ X₂ rv=>hQ ρ₂ h₂ tk₂ v' (N₁.trans R R₁ N₂ λ_ q=>q.elim) R₂ X₂ rv
noncomputable def clsMeth(K:Frag)(C:Addr)(name:Str)(fa:Addr):Bool:=plainGet K C name&&(findIn K (.ref C) name==some (some (.ref fa)))&&isFn K (.ref fa)
noncomputable def instM(C0:Addr)(name:List Nat)(v:V):M Unit:=λst=>match rdN C0 v st with
 |some r=>match lkS name r.2 with
  |none=>some ((),st)
  |some _=>none
 |none=>none
theorem instM_inv{C0:Addr}{name:List Nat}{v:V}{st:St}{r:Unit×St}(e:instM C0 name v st=some r):∃q,rdN C0 v st=some q∧lkS name q.2=none∧r=((),st):=by
 unfold instM at e
 cases q1:rdN C0 v st with
 |none=>rw[q1]at e;exact nos e
 |some q=>
  rw[q1]at e
  dsimp only at e
  cases q2:lkS name q.2 with
  |some _=>rw[q2]at e;exact nos e
  |none=>rw[q2]at e;obtain rfl:=sin e;exact I13 q rfl q2 rfl
noncomputable def meth(C0:Addr)(name:List Nat)(f:Loc→M V)(fs:Loc→M (List V))(g:List V→M V):Loc→M V:=λl=>do
 let v ←f l
 instM C0 name v
 let vs ←fs l
 g (v::vs)
theorem SemE.meth{o:Expr}{name:Str}{l0:List Nat}{apos pos:Pos}{args:List Expr}{C0 fa:Addr}{f:Loc→M V}{fs:Loc→M (List V)}{g:List V→M V}(C:c.Ok)(hl:name.cps.toList=l0)(hm:clsMeth c.KS C0 name fa=true)(hk:keepIn c.KS (.ref fa)=true)
 (hp:plainEs args=true) (ho:SemE c ec nl d o f) (ha:SemEs c ec nl d args fs) (hc:SemCall c d (.adr fa) g)
 (he':∀env,∃pl,eval (.Call (.Attribute o name apos) args [] pos) env=(do
   let ov ←eval o env
   standAt apos.atName
   let(f,first) ←holding [ov] (getMethod ov name pl)
   callWith pos f first (backTo pos (starEach args env)) (backToKw pos (keywordEach [] env)))):
 SemE c ec nl d (.Call (.Attribute o name apos) args [] pos) (Mine.meth C0 l0 f fs g):=by
 intro A env l ρ st v st' s Q E he hA R X h0 hQ
 refine bc λhno=>?_;refine E22 (mbind h0) λov st₁ hf hr=>?_
 clear h0
 refine E22 (mbind hr) λu st₂ hi hr2=>?_
 clear hr
 refine E22 (mbind hr2) λvs st₃ hs hr=>?_
 clear hr2
 refine E13 (instM_inv hi) λq h1 h2 e=>?_
 refine E02 (Prod.mk.inj e) λ_ q9974=>?_;clear hi e;subst q9974
 refine E11 (he' env) λpl hev=>?_
 unfold clsMeth at hm
 simp only[Bool.and_eq_true]at hm
 refine E02 hm λy92 m3=>?_;clear hm;refine E02 y92 λm1 m2=>?_;clear y92
 refine hno ?_;refine methodCall_KW (pl:=pl) ?_ hev
 refine ho A env l ρ st ov _ s _ E he hA R X hf λρ₁ h₁ tk₁ v' N₁ R₁ X₁ rv=>?_
 refine E35 (inst_at R₁ rv h1) λa des m q923 e1 e2 ns I=>?_;subst q923
 have gg:=ns.get name hl
 rw[h2]at gg
 refine method_fn (s:={s with heap:=h₁,toks:=tk₁}) R₁.ks I (plainGet_of m1).1 (plainGet_of m1).2 (beq_iff_eq.mp m2) (beq_iff_eq.mp m3) (by show(lookIn name (dictOf des m)).map _= _;rw[lookIn_dict,gg];rfl) ?_
 exact callWith_sem (first:=[ov]) (s:={s with heap:=h₁,toks:=tk₁}) C (Keep.adr hk) hp ha hc he hA R₁ X₁ (.adr fa) (.cons rv .nil) hs hr λρ₂ h₂ tk₂ v' N₂ R₂ X₂ rv=>hQ ρ₂ h₂ tk₂ v' (N₁.trans R R₁ N₂ λ_ q=>q.elim) R₂ X₂ rv
end
end
section
variable{prog:Program}{w:World}
section
variable{c:Cfg prog w}{ec:Env→Prop}{nl:List Str}{d:Nat}
mutual
noncomputable def eqV:V→V→Option Bool
 |.none,.none=>Option.some true
 |.bool a,.bool b=>Option.some (a==b)
 |.int i,.int j=>Option.some (decide (i=j))
 |.str x,.str y=>Option.some (eqL x y)
 |.tup xs,.tup ys=>eqVs xs ys
 |.none,.tup _=>Option.some false
 |.tup _,.none=>Option.some false
 |.none,.str _=>Option.some false
 |.str _,.none=>Option.some false
 |.none,.int _=>Option.some false
 |.int _,.none=>Option.some false
 |_,_=>Option.none
noncomputable def eqVs:List V→List V→Option Bool
 | [],[]=>Option.some true
 | [],_::_=>Option.some false
 |_::_,[]=>Option.some false
 |x::xs,y::ys=>match eqV x y,eqVs xs ys with
  |Option.some a,Option.some b=>Option.some (a&&b)
  |_,_=>Option.none
end
theorem eqL_str(x y:List Nat):((⟨x.toArray⟩:Str)==⟨y.toArray⟩)=eqL x y:=by
 by_cases h:x=y
 ·subst h;rw[(eqL_iff x x).mpr rfl];simp
 ·have:eqL x y=false:=by
   cases q:eqL x y with
   |false=>rfl
   |true=>exact absurd ((eqL_iff _ _).mp q) h
  rw[this]
  exact beq_false_of_ne λe=>h (by simpa using e)
theorem eqV_eqv(a:V):∀(b:V) {r:Bool} {x y:PyData},eqV a b=some r→a.py=some x→b.py=some y→x.eqv y=r:=by
 refine V.rec (motive_1:=λa=>∀(b:V) {r:Bool} {x y:PyData},eqV a b=some r→a.py=some x→b.py=some y→x.eqv y=r)
  (motive_2:=λxs=>∀(ys:List V) {r:Bool} {px py:List PyData},eqVs xs ys=some r→V.pys xs=some px→V.pys ys=some py→PyData.eqvAll px py=r) ?_ ?_ ?_ ?_ ?_ ?_ ?_ ?_ ?_ ?_ ?_ a
 ·intro b r x y h hx hy
  obtain rfl:=sin hx
  cases b with
  |none=>obtain rfl:=sin hy;exact sin h
  |tup ys=>refine E12 (py_tup hy) λl _ q=>?_;subst q;exact sin h
  |str _=>obtain rfl:=sin hy;exact sin h
  |int _=>obtain rfl:=sin hy;exact sin h
  |_=>exact nos h
 ·intro a b r x y h hx hy
  obtain rfl:=sin hx
  cases b with
  |bool b=>obtain rfl:=sin hy;exact sin h
  |_=>exact nos h
 ·intro i b r x y h hx hy
  obtain rfl:=sin hx
  cases b with
  |none=>obtain rfl:=sin hy;exact sin h
  |int j=>
   obtain rfl:=sin hy
   refine Eq.trans ?_ (sin h)
   show(i==j)=decide (i=j)
   by_cases q:i=j
   ·rw[q,decide_eq_true rfl];exact beq_self_eq_true j
   ·rw[decide_eq_false q];exact beq_false_of_ne q
  |_=>exact nos h
 ·intro s b r x y h hx hy
  obtain rfl:=sin hx
  cases b with
  |none=>obtain rfl:=sin hy;exact sin h
  |str _=>obtain rfl:=sin hy;exact(eqL_str _ _).trans (sin h)
  |_=>exact nos h
 ·intro xs ih b r x y h hx hy
  refine E12 (py_tup hx) λl q1 q=>?_;subst q
  cases b with
  |none=>obtain rfl:=sin hy;exact sin h
  |tup ys=>refine E12 (py_tup hy) λl2 q2 q=>?_;subst q;exact ih ys h q1 q2
  |_=>exact nos h
 ·exact λ_ _ _ _ _ _ hx=>nos hx
 ·exact λ_ _ _ _ _ _ hx=>nos hx
 ·exact λ_ _ _ _ _ _ hx=>nos hx
 ·exact λ_ _ _ _ _ _ hx=>nos hx
 ·intro ys r px py h hx hy
  obtain rfl:=sin hx
  cases ys with
  |nil=>obtain rfl:=sin hy;exact sin h
  |cons y ys=>refine E23 (pys_cons hy) λa b _ _ q=>?_;subst q;exact sin h
 ·intro x xs ihx ihs ys r px py h hx hy
  refine E23 (pys_cons hx) λa b q1 q2 q=>?_;subst q
  cases ys with
  |nil=>obtain rfl:=sin hy;exact sin h
  |cons y ys=>
   refine E23 (pys_cons hy) λa2 b2 q3 q4 q=>?_;subst q
   have h':(match eqV x y,eqVs xs ys with|some a,some b=>some (a&&b)|_,_=>none)=some r:=h
   clear h;revert h'
   cases e1:eqV x y with
   |none=>exact λe=>nos e
   |some r1=>cases e2:eqVs xs ys with
    |none=>exact λe=>nos e
    |some r2=>exact λe=>sin e▸(congr (congrArg and (ihx y e1 q1 q3)) (ihs ys e2 q2 q4))
theorem eqVs_eqv(xs ys:List V){r:Bool}{px py:List PyData}(h:eqVs xs ys=some r)(hx:V.pys xs=some px)(hy:V.pys ys=some py):PyData.eqvAll px py=r:=eqV_eqv (.tup xs) (.tup ys) h (tup_py hx) (tup_py hy)
noncomputable def lsV(SR:List (Nat×AO))(v:V)(st:St):Option (List V):=match rdV SR v st with
 |some (.list xs)=>some xs
 |_=>none
noncomputable def eqData(a b:V):Option Bool:=match a.py,b.py with
 |some x,some y=>match SeqAt.shaped x&&SeqAt.shaped y with
  |true=>eqV a b
  |false=>none
 |_,_=>none
noncomputable def eqLists(xs ys:List V):Option Bool:=match intsV xs,intsV ys with
 |some ns,some ms=>some (eqZ ns ms)
 |_,_=>match V.pys xs,V.pys ys with
  |some x,some y=>match SeqAt.shaped (.list x)&&SeqAt.shaped (.list y) with
   |true=>eqVs xs ys
   |false=>none
  |_,_=>none
noncomputable def cmpEq(SR:List (Nat×AO))(a b:V)(st:St):Option Bool:=match lsV SR a st,lsV SR b st with
 |some xs,some ys=>eqLists xs ys
 |none,none=>eqData a b
 |_,_=>none
noncomputable def eqM(SR:List (Nat×AO))(neg:Bool)(a b:V):M V:=λst=>match cmpEq SR a b st with
 |some r=>some (.bool (Bool.xor neg r),st)
 |none=>none
theorem eqM_inv{SR:List (Nat×AO)}{neg:Bool}{a b:V}{st:St}{r:V×St}(e:eqM SR neg a b st=some r):∃x,cmpEq SR a b st=some x∧r=(.bool (Bool.xor neg x),st):=by
 unfold eqM at e
 cases q:cmpEq SR a b st with
 |none=>rw[q]at e;exact nos e
 |some x=>rw[q]at e;obtain rfl:=sin e;exact I12 x rfl rfl
theorem lsV_at(S:SRok c){ρ:Nat→Addr}{st:St}{h:Heap}{v:V}{v':Value}{xs:List V}(R:RelH c ρ st h)(r:VR st.n ρ h v v')(e:lsV c.SR v st=some xs):∃a its m,v'=.ref a∧h.get? a=some (listOf its m)∧VRs st.n ρ h xs its.toList:=by
 unfold lsV at e
 cases q:rdV c.SR v st with
 |none=>rw[q]at e;exact nos e
 |some o=>
  rw[q]at e
  cases o with
  |list ys=>
   rw[←sin e]
   exact E12 (R.rdV S r q) λa e2 y=>E22 y λits m hl rs=>I33 a its m e2 hl rs
  |_=>exact nos e
theorem intsV_ints{n:Nat}{ρ:Nat→Addr}{h:Heap}{vs:List V}{ks:List Int}{ys:List Value}(e:intsV vs=some ks)(r:VRs n ρ h vs ys):IntsAre ys ks:=by
 induction vs generalizing ks ys with
 |nil=>rw[←sin e,r.inv0];exact .nil
 |cons v vs ih=>
  refine E23 (intsV_cons e) λi l e1 q e2=>?_;subst e1;subst e2
  refine E23 r.inv1 λx ys e a b=>?_;subst e
  refine E11 a.inv λt e=>?_;rw[e]
  exact .cons _ _ (ih q b)
theorem intsV_pys{vs:List V}{ks:List Int}(e:intsV vs=some ks):V.pys vs=some (ks.map .int):=by
 induction vs generalizing ks with
 |nil=>rw[←sin e];rfl
 |cons v vs ih=>
  refine E23 (intsV_cons e) λi l e1 q e2=>?_;subst e1;subst e2
  show(match some (PyData.int i),V.pys vs with|some x,some l=>some (x::l)|_,_=>none)= _
  rw[ih q];rfl
theorem shp_inv{x y:PyData}{o:Option Bool}{r:Bool}(e:(match SeqAt.shaped x&&SeqAt.shaped y with|true=>o|false=>none)=some r):SeqAt.shaped x=true∧SeqAt.shaped y=true∧o=some r:=by
 cases q:SeqAt.shaped x&&SeqAt.shaped y with
 |false=>rw[q]at e;exact nos e
 |true=>rw[q]at e;rw[Bool.and_eq_true]at q;exact⟨q.1,q.2,e⟩
theorem eqData_inv{a b:V}{r:Bool}(e:eqData a b=some r):∃x y,a.py=some x∧b.py=some y∧SeqAt.shaped x=true∧SeqAt.shaped y=true∧x.eqv y=r:=by
 unfold eqData at e
 cases q1:a.py with
 |none=>rw[q1]at e;exact nos e
 |some x=>
  cases q2:b.py with
  |none=>rw[q1,q2]at e;exact nos e
  |some y=>rw[q1,q2]at e;exact E03 (shp_inv e) λh1 h2 h3=>I25 x y rfl rfl h1 h2 (eqV_eqv a b h3 q1 q2)
theorem eqLists_inv{xs ys:List V}{r:Bool}(e:eqLists xs ys=some r):∃x y,V.pys xs=some x∧V.pys ys=some y∧SeqAt.shaped (.list x)=true∧SeqAt.shaped (.list y)=true∧PyData.eqvAll x y=r:=by
 have rest:(match V.pys xs,V.pys ys with
  |some x,some y=>match SeqAt.shaped (.list x)&&SeqAt.shaped (.list y) with
   |true=>eqVs xs ys
   |false=>none
  |_,_=>none)=some r→∃x y,V.pys xs=some x∧V.pys ys=some y∧SeqAt.shaped (.list x)=true∧SeqAt.shaped (.list y)=true∧PyData.eqvAll x y=r:=by
  intro e
  cases q1:V.pys xs with
  |none=>rw[q1]at e;exact nos e
  |some x=>
   cases q2:V.pys ys with
   |none=>rw[q1,q2]at e;exact nos e
   |some y=>rw[q1,q2]at e;exact E03 (shp_inv e) λh1 h2 h3=>I25 x y rfl rfl h1 h2 (eqVs_eqv xs ys h3 q1 q2)
 unfold eqLists at e
 cases q1:intsV xs with
 |none=>rw[q1]at e;exact rest e
 |some ns=>
  cases q2:intsV ys with
  |none=>rw[q1,q2]at e;exact rest e
  |some ms=>
   rw[q1,q2]at e
   refine I25 _ _ (intsV_pys q1) (intsV_pys q2) (ke_shaped_ints _) (ke_shaped_ints _) ?_
   rw[←show eqZ ns ms=r from sin e,eqZ_dec,←ke_sameAll]
   exact(PySem.SeqAt.same_eq_eqv _ _ (PySem.SeqAt.noMix_of_shape (.list .int) rfl (.list (ns.map PyData.int)) (.list (ms.map PyData.int)) (list_map_has λ_=>rfl) (list_map_has λ_=>rfl))).symm
theorem cmpEq_reads(S:SRok c){ρ:Nat→Addr}{st:St}{h:Heap}{a b:V}{a' b':Value}{r:Bool}(R:RelH c ρ st h)(ra:VR st.n ρ h a a')(rb:VR st.n ρ h b b')(e:cmpEq c.SR a b st=some r):
 ∃x y as bs,Reads h a' x as∧Reads h b' y bs∧SeqAt.shaped x=true∧SeqAt.shaped y=true∧x.eqv y=r:=by
 unfold cmpEq at e
 cases qa:lsV c.SR a st with
 |none=>
  cases qb:lsV c.SR b st with
  |some _=>rw[qa,qb]at e;exact nos e
  |none=>
   rw[qa,qb]at e
   exact E25 (eqData_inv e) λx y q1 q2 q3 q4 q5=>E11 (ra.reads q1) λas r1=>E11 (rb.reads q2) λbs r2=>⟨x,y,as,bs,r1,r2,q3,q4,q5⟩
 |some xs=>
  cases qb:lsV c.SR b st with
  |none=>rw[qa,qb]at e;exact nos e
  |some ys=>
   rw[qa,qb]at e
   refine E33 (lsV_at S R ra qa) λa1 its m e1 hl rs=>?_
   refine E33 (lsV_at S R rb qb) λb1 its2 m2 e2 hl2 rs2=>?_
   rw[e1,e2]
   exact E25 (eqLists_inv e) λx y q1 q2 q3 q4 q5=>E11 (rs.reads q1) λas r1=>E11 (rs2.reads q2) λbs r2=>⟨.list x,.list y,_,_,.list hl rfl rfl r1,.list hl2 rfl rfl r2,q3,q4,q5⟩
theorem op_eqM(S:SRok c):SemOp c d (compareOp .Eq) (eqM c.SR false):=by
 intro A ρ st a b v st' a' b' s Q E hA R ra rb hf hQ
 refine bc λhno=>?_;refine E12 (eqM_inv hf) λr hr e=>?_
 refine E02 (Prod.mk.inj e) λq9108 q9109=>?_;clear hf e;subst q9108;subst q9109
 refine E45 (cmpEq_reads S R ra rb hr) λx y as bs r1 r2 s1 s2 hq=>?_
 refine hno ?_;exact eq_dataH r1 r2 s1 s2 hA.units64 (hQ ρ s.heap s.toks _ .refl R (by rw[Bool.false_xor,hq];exact .bool _))
theorem op_neM(S:SRok c):SemOp c d (compareOp .NotEq) (eqM c.SR true):=by
 intro A ρ st a b v st' a' b' s Q E hA R ra rb hf hQ
 refine bc λhno=>?_;refine E12 (eqM_inv hf) λr hr e=>?_
 refine E02 (Prod.mk.inj e) λq9150 q9151=>?_;clear hf e;subst q9150;subst q9151
 refine E45 (cmpEq_reads S R ra rb hr) λx y as bs r1 r2 s1 s2 hq=>?_
 refine hno ?_;exact ne_dataH r1 r2 s1 s2 hA.units64 (hQ ρ s.heap s.toks _ .refl R (by rw[Bool.true_xor,hq];exact .bool _))
end
end
section
variable{prog:Program}{w:World}
noncomputable def pickIx(lo hi st:Option Int)(n:Nat):List Nat:=sliceRange (sliceBounds lo hi st n).1 (sliceBounds lo hi st n).2.1 (sliceBounds lo hi st n).2.2
noncomputable def pickV{α:Type}(xs:List α)(lo hi st:Option Int):List α:=(pickIx lo hi st xs.length).filterMap (xs[·]?)
theorem VRs.pick{n:Nat}{ρ:Nat→Addr}{h:Heap}{xs:List V}{its:Array Value}(r:VRs n ρ h xs its.toList)(ix:List Nat):VRs n ρ h (ix.filterMap (xs[·]?)) (ix.filterMap (its[·]?)):=by
 induction ix with
 |nil=>exact .nil
 |cons i ix ih=>
  have g:=r.getA (i:=i)
  rw[List.filterMap_cons,List.filterMap_cons]
  cases e:xs[i]? with
  |none=>rw[e]at g;rw[g];exact ih
  |some v=>rw[e]at g;exact E12 g λv' e' q=>by rw[e'];exact .cons q ih
theorem VRs.slice{n:Nat}{ρ:Nat→Addr}{h:Heap}{xs:List V}{its:Array Value}(r:VRs n ρ h xs its.toList)(lo hi st:Option Int):VRs n ρ h (pickV xs lo hi st) (slicePick its lo hi st).toList:=by
 unfold pickV slicePick pickIx
 rw[←show its.size=xs.length from r.length]
 exact r.pick _
section
variable{A:Around}{E:Value→Shared→Prop}{s:Shared}
theorem places_rev(n:Nat):Builtin.Slice.slicePlaces ((n:Int)-1) (-1) (-1)=n:=by
 unfold Builtin.Slice.slicePlaces
 have h1:¬((-1:Int) > 0):=by lia
 simp only[h1,if_false]
 by_cases h:(n:Int)-1 > -1
 ·simp only[h,if_true]
  have:((n:Int)-1- -1-1) / (- -1)=n-1:=by
   rw[show(- -1:Int)=1 by lia,Int.ediv_one];lia
  rw[this];lia
 ·simp only[h,if_false];lia
theorem pickIx_rev(n:Nat):pickIx none none (some (-1)) n=(List.range n).map λ(k:Nat)=>(((n:Int)-1)+(-1) * (k:Int)).toNat:=by
 unfold pickIx sliceBounds sliceRange
 have h1:¬((-1:Int) > 0):=by lia
 simp only[Option.getD_some,h1,if_false]
 have:(if ((n:Int)-1) > -1 then((n:Int)-1- -1- -1-1) / (- -1)else 0)=(n:Int):=by
  by_cases h:(n:Int)-1 > -1
  ·simp only[h,if_true]
   rw[show(- -1:Int)=1 by lia,Int.ediv_one];lia
  ·simp only[h,if_false];lia
 rw[this,Int.toNat_natCast]
theorem sliceApplied_rev{sl:Addr}{n:Nat}{u:Tok}{Q:Int×Int×Nat→Shared→Prop}(hs:s.heap.IsSliceOf sl .none .none (.int (-1) u))(h:Q ((n:Int)-1,-1,n) s):
 wpAny (model prog w) A (Builtin.Slice.sliceApplied (.ref sl) (pure (n:Int))) Q E s:=by
 refine E13 (id hs) λos hos hcs hds=>?_
 unfold Builtin.Slice.sliceApplied Builtin.Slice.sliceFields
 refine wpAny_bind (wpAny_bind (wpAny_field hos hds (x:=.none) rfl (wpAny_bind (wpAny_field hos hds (x:=.none) rfl (wpAny_bind (wpAny_field hos hds (x:=.int (-1) u) rfl (wpAny_pure ?_)))))))
 refine wpAny_bind (slicePart_int ?_)
 show wpAny _ _ (if ((-1:Int)==0)=true then _ else _) _ _ s
 rw[if_neg (by decide)]
 refine wpAny_bind (slicePart_none (wpAny_bind (slicePart_none (wpAny_bind (wpAny_pure ?_)))))
 show wpAny _ _ (pure ((n:Int)-1,(-1:Int),Builtin.Slice.slicePlaces ((n:Int)-1) (-1) (-1))) _ _ s
 rw[places_rev]
 exact wpAny_pure h
theorem getItem_tuple_rev{t sl:Addr}{items:Array Value}{u:Tok}{Q:Value→Shared→Prop}(ht:IsTup s.heap t items)(hs:s.heap.IsSliceOf sl .none .none (.int (-1) u))
 (h:Q (.ref s.heap.objs.size) {s with heap:=s.heap.push {cls:=.type "tuple",data:=.seq ((pickIx none none (some (-1)) items.size).filterMap (items[·]?)).toArray}})
 (hsz:items.size≤sizeLine):wpAny (model prog w) A (getItem (.ref t) (.ref sl)) Q E s:=by
 refine E13 (id hs) λos hos hcs hds=>?_
 have hTs:s.TypeIs (.ref sl) "slice":=⟨os,hos,hcs⟩
 unfold getItem
 try with_reducible refine wpAny_holding ?_
 first|refine wpAny_bind (wpAny_pure ?_)|skip
 refine wpAny_bind (wpAny_sequenceKey ht.typeIs (by decide) ?_)
 refine wpAny_bind (wpAny_callSpecial?_slot (name:=Str.ofString "__getitem__") ht.typeIs slot_tuple_getitem
  (wpAny_call_entry slot_tuple_getitem ht.typeIs entry_tuple_getitem ?_ (args_tuple_getitem _ _)))
 show wpAny _ _ (Builtin.Tuple.tupleItemsOf (.ref t) >>= _) _ _ s
 refine wpAny_bind (tupleItemsOf_ ht ?_)
 refine wpAny_bind (wpAny_typeOf hTs ?_)
 rw[if_pos (by decide)]
 refine wpAny_bind (sliceApplied_rev hs ?_)
 have hno:¬(((items.size:Int)-1==0&&(-1:Int)==1&&items.size==items.size)=true):=by simp
 show wpAny _ _ (if ((items.size:Int)-1==0&&(-1:Int)==1&&items.size==items.size)=true then _ else _) _ _ s
 have e:(List.range items.size).filterMap (λ(k:Nat)=>items[((items.size:Int)-1+(k:Int) * (-1)).toNat]?)=(pickIx none none (some (-1)) items.size).filterMap (items[·]?):=by
  rw[pickIx_rev,List.filterMap_map]
  congr 1
  funext k
  show _=items[(((items.size:Int)-1)+(-1) * (k:Int)).toNat]?
  rw[Int.mul_comm]
 have hdrop:sizeOk (.seq ((pickIx none none (some (-1)) items.size).filterMap (items[·]?)).toArray):=by
  show((pickIx none none (some (-1)) items.size).filterMap (items[·]?)).toArray.size≤sizeLine
  rw[List.size_toArray]
  have:=List.length_filterMap_le (items[·]?) (pickIx none none (some (-1)) items.size)
  rw[pickIx_rev,List.length_map,List.length_range]at this
  rw[pickIx_rev]
  omega
 rw[if_neg hno,e]
 first
  |exact wpAny_bind (m:=Builtin.Tuple.tupleExact _) (wpAny_newObj_type (wpAny_pure ⟨_,rfl,wpAny_pure h⟩) hdrop)
  |exact wpAny_bind (m:=Builtin.Tuple.tupleExact _) (wpAny_newObj_type (wpAny_bind (wpAny_pure (wpAny_pure ⟨_,rfl,wpAny_pure h⟩))) hdrop)
  |exact wpAny_bind (wpAny_bind (m:=Builtin.Tuple.tupleExact _) (wpAny_newObj_type (wpAny_pure (wpAny_pure ⟨_,rfl,wpAny_pure h⟩)) hdrop))
  |exact wpAny_bind (wpAny_bind (m:=Builtin.Tuple.tupleExact _) (wpAny_newObj_type (wpAny_pure ⟨_,rfl,wpAny_pure h⟩) hdrop))
end
section
variable{c:Cfg prog w}{ec:Env→Prop}{nl:List Str}{d:Nat}
noncomputable def SemP(c:Cfg prog w)(ec:Env→Prop)(nl:List Str)(d:Nat)(x:Option Expr)(p:Loc→M (Option Int)):Prop:=
 ∀(A:Around) (env:Env) (l:Loc) (ρ:Nat→Addr) (st:St) (v:Option Int) (st':St) (s:Shared) (Q:Value→Shared→Prop) (E:Value→Shared→Prop),
  ec env→AOk d A→RelH c ρ st s.heap→LocR c env nl l ρ st s.heap→p l st=some (v,st')→
  (∀ρ' h' tk v',Nx c NoA ρ st s.heap ρ' st' h'→RelH c ρ' st' h'→LocR c env nl l ρ' st' h'→IsPart v' v→Q v' {s with heap:=h',toks:=tk})→
  wpAny (model prog w) A (evalPart x env) Q E s
theorem SemP.no:SemP c ec nl d none λ_=>pure none:=by
 intro A env l ρ st v st' s Q E he hA R X h0 hQ
 refine E02 (Prod.mk.inj (mpure h0)) λq9820 q9821=>?_;clear he hA h0;subst q9820;subst q9821
 rw[evalPart_none]
 exact wpAny_pure (hQ ρ s.heap s.toks _ .refl R X .none)
noncomputable def someP(f:Loc→M V):Loc→M (Option Int):=λl=>do
 let v ←f l
 match v with
 |.int i=>pure (some i)
 |_=>fail
theorem SemP.some{e:Expr}{f:Loc→M V}(h:SemE c ec nl d e f):SemP c ec nl d (some e) (someP f):=by
 intro A env l ρ st v st' s Q E he hA R X h0 hQ
 refine E22 (mbind h0) λv₁ st₁ hf hr=>?_;clear h0
 rw[evalPart_some]
 refine h A env l ρ st _ _ s _ E he hA R X hf λρ₁ h₁ tk₁ v' N₁ R₁ X₁ rv=>?_
 clear h he hA R X hf
 cases v₁ with
 |int i=>
  refine E02 (Prod.mk.inj (mpure hr)) λe1 e2=>?_
  rw[e1,e2]at hQ
  exact E11 rv.inv λt e=>hQ ρ₁ h₁ tk₁ _ N₁ R₁ X₁ (e▸ .int _ _)
 |_=>exact nos hr
noncomputable def slcM(SR:List (Nat×AO))(v:V)(a b:Option Int):M V:=λst=>match lsV SR v st with
 |some xs=>match Nat.ble xs.length 100000 with
  |true=>some (.ref st.n,st.add (.list (pickV xs a b none)))
  |false=>none
 |none=>none
theorem slcM_inv{SR:List (Nat×AO)}{v:V}{a b:Option Int}{st:St}{r:V×St}(e:slcM SR v a b st=some r):∃xs,lsV SR v st=some xs∧xs.length≤100000∧r=(.ref st.n,st.add (.list (pickV xs a b none))):=by
 unfold slcM at e
 cases q:lsV SR v st with
 |none=>rw[q]at e;exact nos e
 |some xs=>
  rw[q]at e
  dsimp only at e
  cases q2:Nat.ble xs.length 100000 with
  |false=>rw[q2]at e;exact nos e
  |true=>rw[q2]at e;obtain rfl:=sin e;exact I13 xs rfl (Nat.le_of_ble_eq_true q2) rfl
noncomputable def slcE(SR:List (Nat×AO))(f:Loc→M V)(p q:Loc→M (Option Int)):Loc→M V:=λl=>do
 let v ←f l
 let a ←p l
 let b ←q l
 slcM SR v a b
theorem slc_fits{n:Nat}(h:n≤100000):n≤sizeLine:=by rw[sizeLine_eq];lia
theorem slice_at(C:c.Ok)(S:SRok c){A:Around}{ρ:Nat→Addr}{st:St}{s:Shared}{v:V}{v' a' b' c':Value}{xs:List V}{a b cc:Option Int}{sl:Addr}{value slice:Expr}{ops:Value→Value→List Value}{Q:Value→Shared→Prop}{E:Value→Shared→Prop}(hs:∀o i,subscripted slice false o i=operate (ops o i) (getItem o i))
 (R:RelH c ρ st s.heap) (rv:VR st.n ρ s.heap v v') (hx:lsV c.SR v st=some xs) (hl:xs.length≤100000) (hsl:s.heap.IsSliceOf sl a' b' c') (pa:IsPart a' a) (pb:IsPart b' b) (pc:IsPart c' cc) (hc:cc≠some 0)
 (hQ:∀ρ' h' v',Nx c NoA ρ st s.heap ρ' (st.add (.list (pickV xs a b cc))) h'→RelH c ρ' (st.add (.list (pickV xs a b cc))) h'→VR (st.n+1) ρ' h' (.ref st.n) v'→Q v' {s with heap:=h'}):
 wpAny (model prog w) A (subscriptTail value slice v' (.ref sl)) Q E s:=by
 refine E33 (lsV_at S R rv hx) λad its m e ho rs=>?_;subst e;clear rv hx S
 have hL:s.heap.IsList ad its:=⟨_,ho,rfl,m,rfl⟩
 have rp:VRs st.n ρ s.heap (pickV xs a b cc) (slicePick its a b cc).toList:=rs.slice a b cc
 refine sub_tail hL.typeIs slot_list_getitem.lookup (wpAny_getItem_list_slice hL hsl pa pb pc hc ?_ (slc_fits ((show its.size=xs.length from rs.length)▸hl))) (hs _ _)
 exact E03 (list_new C R rp) λN R' r=>hQ _ _ _ N R' r
theorem SemE.slice{e:Expr}{lo hi:Option Expr}{p pos:Pos}{f:Loc→M V}{fa fb:Loc→M (Option Int)}(C:c.Ok)(S:SRok c)(h:SemE c ec nl d e f)(ha:SemP c ec nl d lo fa)(hb:SemP c ec nl d hi fb)
 (hs:∀o i,subscripted (.Slice lo hi none p) false o i=operate [i,o] (getItem o i)):SemE c ec nl d (.Subscript e (.Slice lo hi none p) pos) (slcE c.SR f fa fb):=by
 intro A env l ρ st v st' s Q E he hA R X h0 hQ
 refine E22 (mbind h0) λv₁ st₁ hf hr=>?_
 clear h0
 refine E22 (mbind hr) λa st₂ hfa hr2=>?_
 clear hr
 refine E22 (mbind hr2) λb st₃ hfb hr=>?_
 clear hr2
 refine E13 (slcM_inv hr) λxs hx hlen e1=>?_
 rw[(Prod.mk.inj e1).1,(Prod.mk.inj e1).2]at hQ
 clear hr e1
 refine Subscript_ (h A env l ρ st v₁ st₁ s _ E he hA R X hf λρ₁ h₁ tk₁ v' N₁ R₁ X₁ rv=>wpAny_Slice ?_)
 clear h X hf
 refine ha A env l ρ₁ st₁ a st₂ {s with heap:=h₁,toks:=tk₁} _ E he hA R₁ X₁ hfa λρ₂ h₂ tk₂ a' N₂ R₂ X₂ pa=>?_
 clear ha X₁ hfa
 have N₁₂:=N₁.trans R R₁ N₂ λ_ q=>q.elim
 refine hb A env l ρ₂ st₂ b st₃ {s with heap:=h₂,toks:=tk₂} _ E he hA R₂ X₂ hfb λρ₃ h₃ tk₃ b' N₃ R₃ X₃ pb=>?_
 clear hb he hA X₂ hfb
 rw[evalPart_none]
 refine wpAny_pure ?_
 have k:∀z o,h₃.get? z=some o→(h₃.push {cls:=.type "slice",data:=.fields #[a',b',.none]}).get? z=some o:=λz o e=>Heap.get?_push_of_some _ e
 have N₄:Nx c NoA ρ₃ st₃ h₃ ρ₃ st₃ (h₃.push {cls:=.type "slice",data:=.fields #[a',b',.none]}):=.keep k
 have R₄:=R₃.keep C k
 have N₁₃:Nx c NoA ρ st s.heap ρ₃ st₃ h₃:=N₁₂.trans R R₂ N₃ λ_ q=>q.elim
 have N₁₄:Nx c NoA ρ st s.heap ρ₃ st₃ _:=N₁₃.trans R R₃ N₄ λ_ q=>q.elim
 exact slice_at (s:={s with heap:=h₃.push {cls:=.type "slice",data:=.fields #[a',b',.none]},toks:=tk₃}) (ops:=λo i=>[i,o]) C S hs R₄ (((rv.tr N₂.tr).tr N₃.tr).tr N₄.tr) hx hlen (Heap.IsSliceOf.new ..) pa pb .none nofun
  λρ' h' v' N₅ R₅ r=>hQ ρ' h' tk₃ v' (N₁₄.trans R R₄ N₅ λ_ q=>q.elim) R₅ ((X₃.nx C R₃ R₄ N₄).nx C R₄ R₅ N₅) r
noncomputable def revV(SR:List (Nat×AO))(v:V):M V:=match v with
 |.tup vs=>λst=>match Nat.ble vs.length 100000 with
  |true=>some (.tup (pickV vs none none (some (-1))),st)
  |false=>none
 |.ref k=>λst=>match lsV SR (.ref k) st with
  |some xs=>match Nat.ble xs.length 100000 with
   |true=>some (.ref st.n,st.add (.list (pickV xs none none (some (-1)))))
   |false=>none
  |none=>none
 |_=>fail
noncomputable def revE(SR:List (Nat×AO))(f:Loc→M V)(q:Loc→M (Option Int)):Loc→M V:=λl=>do
 let v ←f l
 let a ←q l
 match a with
 |some i=>match decide (i= -1) with
  |true=>revV SR v
  |false=>fail
 |none=>fail
theorem revV_inv{SR:List (Nat×AO)}{v:V}{st:St}{r:V×St}(e:revV SR v st=some r):(∃vs,v=.tup vs∧vs.length≤100000∧r=(.tup (pickV vs none none (some (-1))),st))∨∃xs,lsV SR v st=some xs∧xs.length≤100000∧r=(.ref st.n,st.add (.list (pickV xs none none (some (-1))))):=by
 refine bc λhno=>?_
 cases v with
 |tup vs=>
  have e':(match Nat.ble vs.length 100000 with
   |true=>some (V.tup (pickV vs none none (some (-1))),st)
   |false=>none)=some r:=e
  cases hb:Nat.ble vs.length 100000 with
  |false=>rw[hb]at e';exact nos e'
  |true=>rw[hb]at e';exact hno (.inl ⟨vs,rfl,Nat.le_of_ble_eq_true hb,sni e'⟩)
 |ref k=>
  have e':(match lsV SR (.ref k) st with
   |some xs=>match Nat.ble xs.length 100000 with
    |true=>some (V.ref st.n,st.add (.list (pickV xs none none (some (-1)))))
    |false=>none
   |none=>none)=some r:=e
  clear e
  cases hx:lsV SR (.ref k) st with
  |none=>rw[hx]at e';exact nos e'
  |some xs=>
   rw[hx]at e'
   dsimp only at e'
   cases hb:Nat.ble xs.length 100000 with
   |false=>rw[hb]at e';exact nos e'
   |true=>rw[hb]at e';exact hno (.inr ⟨xs,hx,Nat.le_of_ble_eq_true hb,sni e'⟩)
 |_=>exact nos e
theorem SemE.rev{e x:Expr}{p pos:Pos}{f:Loc→M V}{fc:Loc→M (Option Int)}(C:c.Ok)(S:SRok c)(h:SemE c ec nl d e f)(hc:SemP c ec nl d (some x) fc)
 (hs:∀o i,subscripted (.Slice none none (some x) p) false o i=operate [o,i] (getItem o i)):SemE c ec nl d (.Subscript e (.Slice none none (some x) p) pos) (revE c.SR f fc):=by
 intro A env l ρ st v st' s Q E he hA R X h0 hQ
 refine E22 (mbind h0) λv₁ st₁ hf hr=>?_
 clear h0
 refine E22 (mbind hr) λa st₂ hfa hr2=>?_
 clear hr
 cases a with
 |none=>exact nos hr2
 |some i=>
 dsimp only at hr2
 by_cases hi:i= -1
 case neg=>rw[decide_eq_false hi]at hr2;exact nos hr2
 subst hi
 rw[decide_eq_true rfl]at hr2
 have hr:revV c.SR v₁ st₂=some (v,st'):=hr2
 clear hr2
 refine Subscript_ (h A env l ρ st v₁ st₁ s _ E he hA R X hf λρ₁ h₁ tk₁ v' N₁ R₁ X₁ rv=>wpAny_Slice ?_)
 clear h X hf
 rw[evalPart_none]
 refine wpAny_pure (wpAny_pure ?_)
 refine hc A env l ρ₁ st₁ _ st₂ {s with heap:=h₁,toks:=tk₁} _ E he hA R₁ X₁ hfa λρ₂ h₂ tk₂ a' N₂ R₂ X₂ pa=>?_
 clear hc he hA X₁ hfa
 have N₁₂:=N₁.trans R R₁ N₂ λ_ q=>q.elim
 have rv:=rv.tr N₂.tr
 clear N₁ R₁ N₂
 dsimp only
 have k:∀z o,h₂.get? z=some o→(h₂.push {cls:=.type "slice",data:=.fields #[.none,.none,a']}).get? z=some o:=λz o e=>Heap.get?_push_of_some _ e
 have N₄:Nx c NoA ρ₂ st₂ h₂ ρ₂ st₂ (h₂.push {cls:=.type "slice",data:=.fields #[.none,.none,a']}):=.keep k
 have hsl:(h₂.push {cls:=.type "slice",data:=.fields #[.none,.none,a']}).IsSliceOf h₂.objs.size .none .none a':=Heap.IsSliceOf.new ..
 generalize h₂.push {cls:=.type "slice",data:=.fields #[.none,.none,a']}=H at *
 have R₄:=R₂.keep C k
 have X₄:=X₂.nx C R₂ R₄ N₄
 have N₁₄:Nx c NoA ρ st s.heap ρ₂ st₂ H:=N₁₂.trans R R₂ N₄ λ_ q=>q.elim
 have rv4:=rv.tr N₄.tr
 clear rv R₂ X₂ k N₄ N₁₂
 rcases revV_inv hr with y|y
 ·refine E13 y λvs e hb e1=>?_;clear S hr y;subst e
  rw[(Prod.mk.inj e1).1,(Prod.mk.inj e1).2]at hQ
  refine E23 rv4.inv λt its e ht rs=>?_;clear rv4 e1;subst e
  have hsz:its.size=vs.length:=rs.length
  cases pa with
  |int i u=>
  refine sub_tail (s:={s with heap:=H,toks:=tk₂}) ht.typeIs slot_tuple_getitem.lookup (getItem_tuple_rev ht hsl ?_ (slc_fits (hsz▸hb))) (hs _ _)
  dsimp only
  have k5:∀z o,H.get? z=some o→(H.push {cls:=.type "tuple",data:=.seq ((pickIx none none (some (-1)) its.size).filterMap (its[·]?)).toArray}).get? z=some o:=λz o e=>Heap.get?_push_of_some _ e
  have N₅:Nx c NoA ρ₂ st₂ H ρ₂ st₂ (H.push {cls:=.type "tuple",data:=.seq ((pickIx none none (some (-1)) its.size).filterMap (its[·]?)).toArray}):=.keep k5
  have R₅:=R₄.keep C k5
  refine hQ ρ₂ _ tk₂ _ (N₁₄.trans R R₄ N₅ λ_ q=>q.elim) R₅ (X₄.nx C R₄ R₅ N₅) (.tup ⟨_,Heap.get?_push_size _ rfl,rfl,_,rfl⟩ ?_)
  unfold pickV
  rw[←hsz]
  exact(rs.pick (pickIx none none (some (-1)) its.size)).tr N₅.tr
 ·refine E13 y λxs hx hb e1=>?_;clear hr y
  rw[(Prod.mk.inj e1).1,(Prod.mk.inj e1).2]at hQ
  exact slice_at (s:={s with heap:=H,toks:=tk₂}) (ops:=λo i=>[o,i]) C S hs R₄ rv4 hx hb hsl .none .none pa (by decide)
   λρ' h' v' N₅ R₅ r=>hQ ρ' h' tk₂ v' (N₁₄.trans R R₄ N₅ λ_ q=>q.elim) R₅ (X₄.nx C R₄ R₅ N₅) r
noncomputable def catM(SR:List (Nat×AO))(a b:V):M V:=λst=>match lsV SR a st,lsV SR b st with
 |some xs,some ys=>match Nat.ble (xs.length+ys.length) 100000 with
  |true=>some (.ref st.n,st.add (.list (xs++ys)))
  |false=>none
 |_,_=>none
theorem catM_inv{SR:List (Nat×AO)}{a b:V}{st:St}{r:V×St}(e:catM SR a b st=some r):∃xs ys,lsV SR a st=some xs∧lsV SR b st=some ys∧xs.length+ys.length≤100000∧r=(.ref st.n,st.add (.list (xs++ys))):=by
 unfold catM at e
 cases q:lsV SR a st with
 |none=>rw[q]at e;exact nos e
 |some xs=>
  cases q1:lsV SR b st with
  |none=>rw[q,q1]at e;exact nos e
  |some ys=>
   rw[q,q1]at e
   dsimp only at e
   cases q2:Nat.ble (xs.length+ys.length) 100000 with
   |false=>rw[q2]at e;exact nos e
   |true=>rw[q2]at e;obtain rfl:=sin e;exact I24 xs ys rfl rfl (Nat.le_of_ble_eq_true q2) rfl
theorem op_cat(C:c.Ok)(S:SRok c):SemOp c d (binaryOp .Add) (catM c.SR):=by
 intro A ρ st a b v st' a' b' s Q E hA R ra rb hf hQ
 refine E24 (catM_inv hf) λxs ys h1 h2 h3 e=>?_
 refine E02 (Prod.mk.inj e) λq9248 q9249=>?_;subst q9248;subst q9249
 refine E33 (lsV_at S R ra h1) λa1 its m q9255 hl rs=>?_;subst q9255
 refine E33 (lsV_at S R rb h2) λb1 its2 m2 q9262 hl2 rs2=>?_;subst q9262
 have l1:=rs.length
 have l2:=rs2.length
 simp at l1 l2
 refine P.add_list (items:=its) (items2:=its2) hl hl2 ?_ (by rw[sizeLine_eq];lia)
 have rp:VRs st.n ρ s.heap (xs++ys) (its.toList++its2.toList):=rs.append rs2
 refine E03 (list_new C R rp) λN₅ R₅ rv=>?_
 have e:(its.toList++its2.toList).toArray=its++its2:=by simp
 rw[e]at N₅ R₅ rv
 exact hQ _ _ s.toks _ N₅ R₅ rv
end
end
section
variable{prog:Program}{w:World}
section
variable{c:Cfg prog w}{ec:Env→Prop}{nl:List Str}{d:Nat}
theorem SemS.failS{b:Stmt}:SemS c ec nl d b λ_=>fail:=by
 intro A env l ρ st v fl st' s Q E he hA R X h0 hQ;exact nos h0
noncomputable def SemAs(c:Cfg prog w)(ec:Env→Prop)(nl:List Str)(d:Nat)(fp:Env→Addr→Prop)(ts:List Expr)(f:List V→Loc→M Loc):Prop:=
 (∀env,(assignEach ts env).length=ts.length∧(assignEach ts env).findIdx? (·.1)=none)∧
 ∀(A:Around) (env:Env) (l:Loc) (ρ:Nat→Addr) (st:St) (v:List V) (l':Loc) (st':St) (v':List Value) (s:Shared) (Q:Unit→Shared→Prop) (E:Value→Shared→Prop),
  ec env→AOk d A→RelH c ρ st s.heap→LocR c env nl l ρ st s.heap→VRs st.n ρ s.heap v v'→f v l st=some (l',st')→
  (∀ρ' h' tk,Nx c (fp env) ρ st s.heap ρ' st' h'→RelH c ρ' st' h'→LocR c env nl l' ρ' st' h'→v.length=ts.length→Q () {s with heap:=h',toks:=tk})→
  (v.length=ts.length)→wpAny (model prog w) A (assignInOrder ((assignEach ts env).map (·.2)) v') Q E s
theorem SemAs.nil{fp:Env→Addr→Prop}:SemAs c ec nl d fp [] λ_ l=>pure l:=by
 refine⟨λenv=>⟨rfl,rfl⟩,?_⟩
 intro A env l ρ st v l' st' v' s Q E he hA R X rv h0 hQ hl
 refine bc λhno=>?_;refine E02 (Prod.mk.inj (mpure h0)) λq9232 q9233=>?_;clear he hA h0;subst q9232;subst q9233
 have:v=[]:=List.length_eq_zero_iff.mp hl
 subst this
 cases rv
 refine hno ?_;exact wpAny_pure (hQ ρ s.heap s.toks .refl R X rfl)
noncomputable def consA(g:V→Loc→M Loc)(gs:List V→Loc→M Loc):List V→Loc→M Loc:=λvs l=>match vs with
 |v::r=>do
  let l' ←g v l
  gs r l'
 | []=>fail
theorem SemAs.cons{fp:Env→Addr→Prop}{t:Expr}{ts:List Expr}{g:V→Loc→M Loc}{gs:List V→Loc→M Loc}(C:c.Ok)(h₁:SemA c ec nl d fp t g)(h₂:SemAs c ec nl d fp ts gs)
 (hst:∀env,assignEach (t::ts) env=(false,PySem.assign t env)::assignEach ts env):SemAs c ec nl d fp (t::ts) (consA g gs):=by
 refine⟨λenv=>?_,?_⟩
 ·refine E02 (h₂.1 env) λa b=>?_
  rw[hst]
  exact⟨by simp[a],by rw[List.findIdx?_cons];simp[b]⟩
 ·intro A env l ρ st v l' st' v' s Q E he hA R X rv h0 hQ hl
  cases rv with
  |nil=>exact nos h0
  |cons r rs=>
   rename_i x x' vs vs'
   refine E22 (mbind h0) λl₁ st₁ hg hr=>?_
   rw[hst]
   show wpAny (model prog w) A (do holding vs' (PySem.assign t env x');assignInOrder ((assignEach ts env).map (·.2)) vs') Q E s
   refine wpAny_bind (wpAny_holding (h₁ A env l ρ st x l₁ st₁ x' s _ E he hA R X r hg λρ₁ h₁' tk₁ N₁ R₁ X₁=>?_))
   refine h₂.2 A env l₁ ρ₁ st₁ vs l' st' vs' {s with heap:=h₁',toks:=tk₁} Q E he hA R₁ X₁ (rs.tr N₁.tr) hr (λρ₂ h₂' tk₂ N₂ R₂ X₂ hl'=>hQ ρ₂ h₂' tk₂ (N₁.trans R R₁ N₂ λ_ q=>.inl q) R₂ X₂ hl) (by simpa using hl)
noncomputable def tupA(n:Nat)(gs:List V→Loc→M Loc):V→Loc→M Loc:=λv l=>match v with
 |.tup vs=>match Nat.beq vs.length n with
  |true=>gs vs l
  |false=>fail
 |_=>fail
theorem SemA.tup{fp:Env→Addr→Prop}{ts:List Expr}{k:Nat}{pos:Pos}{gs:List V→Loc→M Loc}{n:Nat}(C:c.Ok)(h:SemAs c ec nl d fp ts gs)(hn:ts.length=n):SemA c ec nl d fp (.Tuple ts k pos) (tupA n gs):=by
 intro A env l ρ st v l' st' v' s Q E he hA R X rv h0 hQ
 cases v with
 |tup vs=>
  have h0':(match Nat.beq vs.length n with
   |true=>gs vs l
   |false=>fail) st=some (l',st'):=h0
  clear h0
  cases hb:Nat.beq vs.length n with
  |false=>rw[hb]at h0';exact nos h0'
  |true=>
   rw[hb]at h0'
   have hb:=Nat.eq_of_beq_eq_true hb
   refine E23 rv.inv λa its e ht rs=>?_;clear rv;subst e
   have hsz:its.size=vs.length:=rs.length
   refine E02 (h.1 env) λq1 q2=>?_
   refine wpAny_assign_Tuple hA.1 ht (by rw[q1,hn,hsz,hb]) q2 λh' hx=>?_
   have k:∀b o,s.heap.get? b=some o→h'.get? b=some o:=λb o e=>hx b o (λz=>nn fresh_size (z▸e)) e
   have N₁:Nx c (fp env) ρ st s.heap ρ st h':=.keep k
   have R₁:=R.keep C k
   exact h.2 A env l ρ st vs l' st' its.toList {s with heap:=h'} Q E he hA R₁ (X.nx C R R₁ (.keep k)) (rs.tr N₁.tr) h0' (λρ₂ h₂ tk₂ N₂ R₂ X₂ _=>hQ ρ₂ h₂ tk₂ (N₁.trans R R₁ N₂ λ_ q=>.inl q) R₂ X₂) (hb.trans hn.symm)
 |_=>exact nos h0
noncomputable def stRev:List Nat→List V→Loc→Loc
 |i::is,v::vs,l=>up i v (stRev is vs l)
 |_,_,l=>l
theorem bind_rev(C:c.Ok){A:Around}{env:Env}(he:EnvOk env)(is:List Nat)(names:List Str)(vs:List V)(vs':List Value){ρ:Nat→Addr}{st:St}{l:Loc}{s:Shared}{Q:Unit→Shared→Prop}{E:Value→Shared→Prop}{tn:List (Value→Sem Unit)}{tv:List Value}
 (hn:∀(j:Nat) (x:Str),names[j]? =some x→∃i,is[j]? =some i∧nl[i]? =some x∧env.kindOf x=some .local) (h1:is.length=names.length) (h2:vs.length=names.length) (R:RelH c ρ st s.heap) (X:LocR c env nl l ρ st s.heap) (rv:VRs st.n ρ s.heap vs vs')
 (hQ:∀h' tk,Nx c (FPe env) ρ st s.heap ρ st h'→RelH c ρ st h'→LocR c env nl (stRev is vs l) ρ st h'→wpAny (model prog w) A (assignInOrder tn tv) Q E {s with heap:=h',toks:=tk}):
 wpAny (model prog w) A (assignInOrder ((names.reverse.map λn=>bindName env n)++tn) (vs'.reverse++tv)) Q E s:=by
 induction names generalizing is vs vs' tn tv with
 |nil=>
  obtain rfl:=List.length_eq_zero_iff.mp h1
  obtain rfl:=List.length_eq_zero_iff.mp h2
  rw[rv.inv0]
  exact hQ s.heap s.toks .refl R X
 |cons x names ih=>
  refine E21 (List.exists_cons_of_length_eq_add_one h1) λi is1 e=>?_;subst e
  refine E21 (List.exists_cons_of_length_eq_add_one h2) λv vs1 e=>?_;subst e
  refine E23 rv.inv1 λv1 vs2 e r rs=>?_;clear rv;subst e
  rw[List.reverse_cons,List.map_append,List.append_assoc,List.reverse_cons,List.append_assoc]
  refine ih is1 vs1 vs2 (λj y hy=>hn (j+1) y hy) (Nat.succ.inj h1) (Nat.succ.inj h2) rs λh' tk N R' X'=>?_
  clear ih rs h1 h2
  refine E13 (hn 0 x rfl) λi' q1 q2 q3=>?_
  obtain rfl:=sin q1
  clear hn q1
  show wpAny (model prog w) A (do holding tv (bindName env x v1);assignInOrder tn tv) Q E _
  refine wpAny_bind (wpAny_holding (wpAny_bindName ?_))
  exact store_name (s:={s with heap:=h',toks:=tk}) C he q2 (.loc q3) R' X' (r.tr N.tr) λh₂ tk₂ N₂ R₂ X₂=>hQ h₂ tk₂ (N.trans R R' N₂ λ_ q=>.inl q) R₂ X₂
noncomputable def asgR(f:Loc→M V)(is:List Nat):Loc→M (Loc×Fl):=λl=>do
 let v ←f l
 match v with
 |.tup vs=>match Nat.beq vs.length is.length with
  |true=>pure (stRev is vs l,.next)
  |false=>fail
 |_=>fail
noncomputable def namesB(nl:List Str)(SC:Scope)(is:List Nat)(names:List Str):Bool:=match is,names with
 | [],[]=>true
 |i::is,x::names=>(match nl[i]? with|some y=>y==x|none=>false)&&(SC.names.lookup x==some .local)&&namesB nl SC is names
 |_,_=>false
theorem namesB_iff{SC:Scope}{is:List Nat}{names:List Str}(h:namesB nl SC is names=true):is.length=names.length∧∀(j:Nat) (x:Str),names[j]? =some x→∃i,is[j]? =some i∧nl[i]? =some x∧SC.names.lookup x=some .local:=by
 induction is generalizing names with
 |nil=>cases names with
  |nil=>exact⟨rfl,λj x h=>nos (List.getElem?_nil.symm.trans h)⟩
  |cons _ _=>exact nft h
 |cons i is ih=>cases names with
  |nil=>exact nft h
  |cons x names=>
   have h':((match nl[i]? with|some y=>y==x|none=>false)&&(SC.names.lookup x==some .local)&&namesB nl SC is names)=true:=h
   clear h
   rw[Bool.and_eq_true,Bool.and_eq_true]at h'
   refine E02 (ih h'.2) λq1 q2=>⟨congrArg (· +1) q1,λj y hy=>?_⟩
   cases j with
   |succ j=>exact q2 j y hy
   |zero=>
    obtain rfl:=sin hy
    have h1:=h'.1.1
    cases e:nl[i]? with
    |none=>rw[e]at h1;exact nft h1
    |some z=>rw[e]at h1;exact I13 i rfl (e.trans (congrArg some (eq_of_beq h1))) (eq_of_beq h'.1.2)
theorem asgR_inv{f:Loc→M V}{is:List Nat}{l:Loc}{st:St}{l':Loc}{fl:Fl}{st':St}(e:asgR f is l st=some ((l',fl),st')):∃vs,f l st=some (.tup vs,st')∧vs.length=is.length∧l'=stRev is vs l∧fl=.next:=by
 refine E22 (mbind e) λv st1 hf hr=>?_;clear e
 cases v with
 |tup vs=>
  have hr':(match Nat.beq vs.length is.length with
   |true=>pure (stRev is vs l,Fl.next)
   |false=>fail:M (Loc×Fl)) st1=some ((l',fl),st'):=hr
  clear hr
  cases hb:Nat.beq vs.length is.length with
  |false=>rw[hb]at hr';exact nos hr'
  |true=>
   rw[hb]at hr'
   refine E03 (pqi (mpure hr')) λe1 e2 e3=>?_
   rw[e3]
   exact I14 vs hf (Nat.eq_of_beq_eq_true hb) e1 e2
 |_=>exact nos hr
theorem SemS.assignSw{SC:Scope}{cn:List Str}{t e:Expr}{pos:Pos}{f:Loc→M V}{is:List Nat}{names:List Str}(C:c.Ok)(h₁:SemE c (EC SC cn) nl d e f)(hB:namesB nl SC is names=true)
 (hsw:∀env,EC SC cn env→swapsWithSole [t] e pos.line env=pure false) (hss:∀env,EC SC cn env→swappedStores [t] e env=pure (some names)):SemS c (EC SC cn) nl d (.Assign [t] e pos) (asgR f is):=by
 intro A env l ρ st l' fl st' s Q E he hA R X h0 hQ
 refine E14 (asgR_inv h0) λvs hf hb e1 e2=>?_;clear h0;subst e1;subst e2
 refine E02 (namesB_iff hB) λq1 q2=>?_;clear hB
 rw[exec_Assign_arm]
 refine wpAny_bind (wpAny_standAt ?_)
 rw[hsw env he]
 refine wpAny_bind (wpAny_pure ?_)
 rw[if_neg (by decide)]
 refine wpAny_bind (h₁ A env l ρ st _ _ s _ E he hA R X hf λρ₁ h₁' tk₁ v' N₁ R₁ X₁ r₁=>?_)
 rw[hss env he]
 clear hf h₁ hsw hss X
 refine wpAny_bind (wpAny_pure ?_)
 refine E23 r₁.inv λa its e ht rs=>?_;clear r₁;subst e
 show wpAny (model prog w) A (do
  rule "assign.swapped-stores"
  let items ←unpackItems (.ref a) names.length none
  assignInOrder (names.reverse.map λn=>bindName env n) items.reverse
  pure .next) Q E _
 refine wpAny_bind (wpAny_rule (wpAny_bind ?_))
 rw[show names.length=its.size from q1.symm.trans (hb.symm.trans rs.length.symm)]
 refine wpAny_unpackItems_tuple (s:={s with heap:=h₁',toks:=tk₁}) hA.1 ht λh' hx=>?_
 have k:∀b o,h₁'.get? b=some o→h'.get? b=some o:=λb o e=>hx b o (λz=>nn fresh_size (z▸e)) e
 have N₂:Nx c NoA ρ₁ st' h₁' ρ₁ st' h':=.keep k
 have R₂:=R₁.keep C k
 have N₁₂:=(N₁.trans R R₁ N₂ λ_ q=>q.elim).wide (fp':=FPe env) λ_ q=>q.elim
 have key:=bind_rev (nl:=nl) (A:=A) (tn:=[]) (tv:=[]) (Q:=λ_ s'=>Q .next s') (E:=E) (s:={s with heap:=h',toks:=tk₁}) C he.ok is names vs its.toList (λj x hx=>E13 (q2 j x hx) λi a1 a2 a3=>⟨i,a1,a2,(he.kind x).trans a3⟩) q1 (hb.trans q1) R₂ (X₁.nx C R₁ R₂ N₂) (rs.tr N₂.tr) λh₃ tk₃ N₃ R₃ X₃=>wpAny_pure (hQ ρ₁ h₃ tk₃ .next (N₁₂.trans R R₂ N₃ λ_ q=>.inl q) R₃ X₃ .next)
 rw[List.append_nil,List.append_nil]at key
 exact wpAny_bind (wpAny_mono key (λ_ _ q=>wpAny_pure q) λ_ _ q=>q)
end
end
section
variable{prog:Program}{w:World}
section
variable{c:Cfg prog w}{ec:Env→Prop}{nl:List Str}{d:Nat}
noncomputable def anyEq(x:V):List V→Option Bool
 | []=>some false
 |v::r=>match eqV v x,anyEq x r with
  |some a,some b=>some (a||b)
  |_,_=>none
noncomputable def inL(x:V)(vs:List V):Option Bool:=match x.py,V.pys vs with
 |some dx,some ds=>match SeqAt.shaped dx&&SeqAt.shaped (.list ds) with
  |true=>anyEq x vs
  |false=>none
 |_,_=>none
theorem anyEq_eqv{x:V}{dx:PyData}(hx:x.py=some dx){vs:List V}{ds:List PyData}{r:Bool}(h:anyEq x vs=some r)(hd:V.pys vs=some ds):(ds.any λy=>PyData.eqv y dx)=r:=by
 induction vs generalizing ds r with
 |nil=>rw[←sin hd,←sin h];rfl
 |cons v vs ih=>
  refine E23 (pys_cons hd) λa b q1 q2 e=>?_;subst e
  have h':(match eqV v x,anyEq x vs with|some a,some b=>some (a||b)|_,_=>none)=some r:=h
  clear h
  cases e1:eqV v x with
  |none=>rw[e1]at h';exact nos h'
  |some r1=>cases e2:anyEq x vs with
   |none=>rw[e1,e2]at h';exact nos h'
   |some r2=>
    rw[e1,e2]at h'
    rw[←sin h',List.any_cons,eqV_eqv v x e1 q1 hx,ih e2 q2]
theorem inL_inv{x:V}{vs:List V}{r:Bool}(h:inL x vs=some r):∃dx ds,x.py=some dx∧V.pys vs=some ds∧SeqAt.shaped dx=true∧SeqAt.shaped (.list ds)=true∧(ds.any λy=>PyData.eqv y dx)=r:=by
 unfold inL at h
 cases q1:x.py with
 |none=>rw[q1]at h;exact nos h
 |some dx=>
  cases q2:V.pys vs with
  |none=>rw[q1,q2]at h;exact nos h
  |some ds=>
   rw[q1,q2]at h
   dsimp only at h
   cases q3:SeqAt.shaped dx&&SeqAt.shaped (.list ds) with
   |false=>rw[q3]at h;exact nos h
   |true=>
    rw[q3]at h
    rw[Bool.and_eq_true]at q3
    exact I25 dx ds rfl rfl q3.1 q3.2 (anyEq_eqv q1 h q2)
noncomputable def inO(x:V):AO→Option Bool
 |.list xs=>inL x xs
 |.idt es=>match x with
  |.int k=>some (lkI k es).isSome
  |_=>none
 |.sd es=>match x with
  |.str k=>some (lkS k es).isSome
  |_=>none
 |.td es=>match x with
  |.tup vs=>match intsV vs with
   |some ks=>some (lkT ks es).isSome
   |none=>none
  |_=>none
 |_=>none
noncomputable def inV(SR:List (Nat×AO))(x v:V)(st:St):Option Bool:=match v with
 |.tup vs=>inL x vs
 |.ref k=>match rdO k st with
  |some o=>inO x o
  |none=>none
 |.adr a=>match lk a SR with
  |some o=>inO x o
  |none=>none
 |_=>none
noncomputable def inM(SR:List (Nat×AO))(neg:Bool)(x v:V):M V:=λst=>match inV SR x v st with
 |some b=>some (.bool (Bool.xor neg b),st)
 |none=>none
theorem inM_inv{SR:List (Nat×AO)}{neg:Bool}{x v:V}{st:St}{r:V×St}(e:inM SR neg x v st=some r):∃b,inV SR x v st=some b∧r=(.bool (Bool.xor neg b),st):=by
 unfold inM at e
 cases q:inV SR x v st with
 |none=>rw[q]at e;exact nos e
 |some b=>rw[q]at e;obtain rfl:=sin e;exact I12 b rfl rfl
theorem shaped_lays{ds:List PyData}(h:SeqAt.shaped (.list ds)=true):PyData.canLayAll0 ds=true:=by
 have:=PySem.SeqAt.canLay_of_shaped h
 exact this
theorem inO_inv{x:V}{o:AO}{b:Bool}(e:inO x o=some b):(∃xs,o=.list xs∧inL x xs=some b)∨(∃es k,o=.idt es∧x=.int k∧(lkI k es).isSome=b)∨(∃es k,o=.sd es∧x=.str k∧(lkS k es).isSome=b)∨∃es vs ks,o=.td es∧x=.tup vs∧intsV vs=some ks∧(lkT ks es).isSome=b:=by
 refine bc λhno=>?_
 generalize h1:o=o1 at e
 generalize h2:x=x1 at e
 cases o1 with
 |list xs=>exact hno (.inl ⟨xs,h1,h2▸e⟩)
 |idt es=>cases x1 with
  |int k=>exact hno (.inr (.inl ⟨es,k,h1,h2,sin e⟩))
  |_=>exact nos e
 |sd es=>cases x1 with
  |str k=>exact hno (.inr (.inr (.inl ⟨es,k,h1,h2,sin e⟩)))
  |_=>exact nos e
 |td es=>cases x1 with
  |tup vs=>
   have e':(match intsV vs with|some ks=>some (lkT ks es).isSome|none=>none)=some b:=e
   clear e
   cases q:intsV vs with
   |none=>rw[q]at e';exact nos e'
   |some ks=>rw[q]at e';exact hno (.inr (.inr (.inr ⟨es,vs,ks,h1,h2,q,sin e'⟩)))
  |_=>exact nos e
 |_=>exact nos e
theorem inV_inv{SR:List (Nat×AO)}{x v:V}{st:St}{b:Bool}(e:inV SR x v st=some b):(∃vs,v=.tup vs∧inL x vs=some b)∨∃o,rdV SR v st=some o∧inO x o=some b:=by
 have g:∀ {q:Option AO},(match q with|some o=>inO x o|none=>none)=some b→∃o,q=some o∧inO x o=some b:=λ{q} h=>by
  cases q with
  |none=>exact nos h
  |some o=>exact⟨o,rfl,h⟩
 cases v with
 |tup vs=>exact .inl ⟨vs,rfl,e⟩
 |ref k=>exact .inr (g e)
 |adr a=>exact .inr (g e)
 |_=>exact nos e
theorem in_core(S:SRok c){A:Around}{ρ:Nat→Addr}{st:St}{x v:V}{x' v':Value}{b:Bool}{s:Shared}{Q:Value→Shared→Prop}{E:Value→Shared→Prop}(neg:Bool)(hA:AOk d A)(R:RelH c ρ st s.heap)(rx:VR st.n ρ s.heap x x')(rv:VR st.n ρ s.heap v v')(h0:inV c.SR x v st=some b)
 (hQ:∀tk,Q (.bool (Bool.xor neg b)) {s with toks:=tk}):wpAny (model prog w) A (compareOp (if neg then .NotIn else .In) x' v') Q E s:=by
 have hu65:A.units+65<cLine:=Nat.lt_of_le_of_lt (Nat.add_le_add_left (by decide) _) (show A.units+200<cLine from Nat.lt_of_le_of_lt (Nat.add_le_add_right (Nat.le_add_right _ _) _) hA.2.2)
 have hu1:A.units+1<cLine:=Nat.lt_of_le_of_lt (Nat.add_le_add_left (by decide) _) hu65
 have hq:∀ {b':Bool} (tk:Tok),b'=b→Q (.bool (cond neg (!b') b')) {s with toks:=tk}:=λ{b'} tk e=>by
  have:=hQ tk
  rw[e]
  cases neg with
  |false=>rwa [Bool.false_xor]at this
  |true=>rwa [Bool.true_xor]at this
 clear hQ hA
 rcases inV_inv h0 with y|y
 ·refine E12 y λvs e hb=>?_;clear y h0 S R;subst e
  refine E25 (inL_inv hb) λdx ds h1 h2 h3 h4 h5=>?_
  refine E23 rv.inv λa its e ht rs=>?_;clear rv;subst e
  refine E11 (rx.reads h1) λas r1=>?_
  refine E11 (rs.reads h2) λbs r2=>?_
  refine E13 ht λo ho hc y=>?_;clear ht;refine E11 y λm hdd=>?_
  have rl:=Reads.tuple ho hc hdd r2
  clear ho hc hdd r2 rs rx h1 h2 hb y
  cases neg with
  |false=>exact SeqAt.in_tuple_reads rl r1 (shaped_lays h4) (PySem.SeqAt.canLay_of_shaped h3) (PyProof.Rows.room_in_shaped h3 hu65) (hq s.toks h5)
  |true=>exact SeqAt.notIn_tuple_reads rl r1 (shaped_lays h4) (PySem.SeqAt.canLay_of_shaped h3) (PyProof.Rows.room_in_shaped h3 hu65) (hq s.toks h5)
 refine E12 y λo ho hb=>?_;clear y h0
 refine E12 (R.rdV S rv ho) λa e hat=>?_;clear rv ho R S;subst e
 rcases inO_inv hb with y|y|y|y
 ·refine E12 y λxs e hb=>?_;clear y;subst e
  refine E25 (inL_inv hb) λdx ds h1 h2 h3 h4 h5=>?_
  refine E22 hat λits m hl rs=>?_;clear hat
  refine E11 (rx.reads h1) λas r1=>?_
  refine E11 (rs.reads h2) λbs r2=>?_
  have rl:Reads s.heap (.ref a) (.list ds) _:=.list hl rfl rfl r2
  clear hl r2 rs rx h1 h2
  cases neg with
  |false=>exact SeqAt.in_list_reads rl r1 (shaped_lays h4) (PySem.SeqAt.canLay_of_shaped h3) (PyProof.Rows.room_in_shaped h3 hu65) (hq s.toks h5)
  |true=>exact SeqAt.notIn_list_reads rl r1 (shaped_lays h4) (PySem.SeqAt.canLay_of_shaped h3) (PyProof.Rows.room_in_shaped h3 hu65) (hq s.toks h5)
 ·refine E23 y λes k e1 e2 hb2=>?_;clear y hu65 hb;subst e1;subst e2
  refine E02 hat λhsys y=>?_;clear hat;refine E12 y λkvs hd kv=>?_;clear y
  refine E11 rx.inv λt e=>?_;clear rx;subst e
  have e:(valueAt kvs k).isSome=b:=by
   have g:=kv.getI k
   rw[←hb2];clear hq
   cases z:lkI k es with
   |none=>rw[z]at g;rw[g];rfl
   |some y=>rw[z]at g;exact E12 g λy' hy _=>by rw[hy];rfl
  cases neg with
  |false=>exact wpAny_in_of (intKind_is prog w k t) hsys hd.mapOf (hq _ e)
  |true=>exact wpAny_notIn_of (intKind_is prog w k t) hsys hd.mapOf (hq _ e)
 ·refine E23 y λes l e1 e2 hb2=>?_;clear y hu65 hb;subst e1;subst e2
  refine E02 hat λhsys y=>?_;clear hat;refine E12 y λkvs hd kv=>?_;clear y
  refine E22 rx.inv λu t e hz=>?_;clear rx;subst e;subst hz
  have e:(valueAt kvs u).isSome=b:=by
   have g:=kv.getS u
   rw[←hb2];clear hq
   cases z:lkS u.cps.toList es with
   |none=>rw[z]at g;rw[g];rfl
   |some y=>rw[z]at g;exact E12 g λy' hy _=>by rw[hy];rfl
  cases neg with
  |false=>exact wpAny_in_of (strKind_is prog w u t) hsys hd.mapOf (hq _ e)
  |true=>exact wpAny_notIn_of (strKind_is prog w u t) hsys hd.mapOf (hq _ e)
 ·refine E34 y λes vs ks e1 e2 q hb2=>?_;clear y hu65 hb;subst e1;subst e2
  refine E02 hat λhsys y=>?_;clear hat;refine E12 y λxs hd kv=>?_;clear y
  refine E23 rx.inv λu _ e _ _=>?_;subst e
  have e:(atKey xs ks).isSome=b:=by
   have g:=kv.getT ks
   rw[←hb2];clear hq
   cases z:lkT ks es with
   |none=>rw[z]at g;rw[g];rfl
   |some y=>rw[z]at g;exact E12 g λy' hy _=>by rw[hy];rfl
  cases neg with
  |false=>exact wpAny_in_heap (knd:=PySem.tupleKind (PySem.intKind prog w)) hu1 (tup_key q rx) hsys hd (hq _ e)
  |true=>exact wpAny_notIn_heap (knd:=PySem.tupleKind (PySem.intKind prog w)) hu1 (tup_key q rx) hsys hd (hq _ e)
theorem op_in(S:SRok c):SemOp c d (compareOp .In) (inM c.SR false):=by
 intro A ρ st a b v st' a' b' s Q E hA R ra rb hf hQ
 refine E12 (inM_inv hf) λr hr e=>?_
 refine E02 (Prod.mk.inj e) λq9373 q9374=>?_;clear hf e;subst q9373;subst q9374
 exact in_core S false hA R ra rb hr λtk=>hQ ρ s.heap tk _ .refl R (.bool _)
theorem op_notIn(S:SRok c):SemOp c d (compareOp .NotIn) (inM c.SR true):=by
 intro A ρ st a b v st' a' b' s Q E hA R ra rb hf hQ
 refine E12 (inM_inv hf) λr hr e=>?_
 refine E02 (Prod.mk.inj e) λq9408 q9409=>?_;clear hf e;subst q9408;subst q9409
 exact in_core S true hA R ra rb hr λtk=>hQ ρ s.heap tk _ .refl R (.bool _)
end
end
section
variable{prog:Program}{w:World}
section
variable{c:Cfg prog w}{ec:Env→Prop}{nl:List Str}{d:Nat}
theorem args1{α:Type}{F:List V→Option α}{args:List V}{r:α}(h:F args=some r)(h0:F []=none)(h2:∀a b t,F (a::b::t)=none):∃v,args=[v]∧F [v]=some r:=by
 cases args with
 |nil=>exact nn h0 h
 |cons a t=>cases t with
  |nil=>exact⟨a,rfl,h⟩
  |cons b t=>exact nn (h2 a b t) h
theorem bi1{id:String}{F:List V→M V}(h0:F []=fail)(h2:∀a b t,F (a::b::t)=fail)
 (h:∀(A:Around) (ρ:Nat→Addr) (st:St) (x v:V) (st':St) (x':Value) (s:Shared) (Q:Value→Shared→Prop) (E:Value→Shared→Prop),AOk d A→RelH c ρ st s.heap→VR st.n ρ s.heap x x'→F [x] st=some (v,st')→KO c ρ st s v st' Q→wpAny (model prog w) A (call (.builtin id) [x']) Q E s):SemCall c d (.bi id) F:=by
 intro A ρ st args v st' fv' args' s Q E hA R rf ra e hQ
 obtain rfl:=rf.inv
 refine E12 (args1 (F:=λl=>F l st) e (congrFun h0 st) λa b t=>congrFun (h2 a b t) st) λx q e=>?_;subst q
 refine E12 ra.one λx' q r=>?_;subst q
 exact h A ρ st x v st' x' s Q E hA R r e hQ
theorem ty1{id:String}{F:List V→M V}(h0:F []=fail)(h2:∀a b t,F (a::b::t)=fail)
 (h:∀(A:Around) (ρ:Nat→Addr) (st:St) (x v:V) (st':St) (x':Value) (s:Shared) (Q:Value→Shared→Prop) (E:Value→Shared→Prop),AOk d A→RelH c ρ st s.heap→VR st.n ρ s.heap x x'→F [x] st=some (v,st')→KO c ρ st s v st' Q→wpAny (model prog w) A (call (.type id) [x']) Q E s):SemCall c d (.ty id) F:=by
 intro A ρ st args v st' fv' args' s Q E hA R rf ra e hQ
 obtain rfl:=rf.inv
 refine E12 (args1 (F:=λl=>F l st) e (congrFun h0 st) λa b t=>congrFun (h2 a b t) st) λx q e=>?_;subst q
 refine E12 ra.one λx' q r=>?_;subst q
 exact h A ρ st x v st' x' s Q E hA R r e hQ
noncomputable def appB:List V→M V
 | [.ref k,x]=>do
   appL k x
   pure .none
 |_=>fail
theorem args2k{G:List V→M V}{args:List V}{st:St}{r:V×St}(h:G args st=some r)(h0:G []=fail)(h1:∀a,G [a]=fail)(h3:∀a b c t,G (a::b::c::t)=fail)(h2:∀v x,(∀k,v≠ .ref k)→G [v,x]=fail):∃k x,args=[.ref k,x]∧G [.ref k,x] st=some r:=by
 cases args with
 |nil=>exact nn (congrFun h0 st) h
 |cons v t=>cases t with
  |nil=>exact nn (congrFun (h1 v) st) h
  |cons x t=>cases t with
   |cons y t=>exact nn (congrFun (h3 v x y t) st) h
   |nil=>cases v with
    |ref k=>exact⟨k,x,rfl,h⟩
    |_=>exact nn (congrFun (h2 _ x λ_ e=>V.noConfusion e) st) h
theorem sem_append(C:c.Ok):SemCall c d (.bi "list.append") appB:=by
 intro A ρ st args v st' fv' args' s Q E hA R rf ra h0 hQ
 obtain rfl:=rf.inv
 refine E22 (args2k h0 rfl (λa=>by cases a <;> rfl) (λa _ _ _=>by cases a <;> rfl) λv _ h=>by cases v <;> first|rfl|exact absurd rfl (h _)) λk x e h0=>?_;subst e
 refine E23 ra.two λa' b' e r1 r2=>?_;clear hA ra;subst e
 rw[show a'=.ref (ρ k)from r1.inv.1]
 refine E22 (mbind h0) λu st₁ h1 h2=>?_
 refine E02 (Prod.mk.inj (mpure h2)) λe1 e2=>?_;rw[e1,e2]at hQ
 exact append_sem C R r2 h1 λh' N R'=>hQ ρ h' s.toks .none N R' .none
noncomputable def extL(SR:List (Nat×AO))(k:Nat)(v:V):M Unit:=λst=>match lk k st.H with
 |some (.list xs)=>match lsV SR v st with
  |some ys=>match Nat.ble (xs.length+ys.length) 100000 with
   |true=>some ((),{st with H:=up k (.list (xs++ys)) st.H})
   |false=>none
  |none=>none
 |_=>none
theorem extL_inv{SR:List (Nat×AO)}{k:Nat}{v:V}{st:St}{r:Unit×St}(e:extL SR k v st=some r):∃xs ys,lk k st.H=some (.list xs)∧lsV SR v st=some ys∧xs.length+ys.length≤100000∧r=((),{st with H:=up k (.list (xs++ys)) st.H}):=by
 unfold extL at e
 cases q:lk k st.H with
 |none=>rw[q]at e;exact nos e
 |some o=>
  rw[q]at e
  cases o with
  |list xs=>
   dsimp only at e
   cases q1:lsV SR v st with
   |none=>rw[q1]at e;exact nos e
   |some ys=>
    rw[q1]at e
    dsimp only at e
    cases q2:Nat.ble (xs.length+ys.length) 100000 with
    |false=>rw[q2]at e;exact nos e
    |true=>rw[q2]at e;exact I24 xs ys rfl rfl (Nat.le_of_ble_eq_true q2) (sni e)
  |_=>exact nos e
noncomputable def extB(SR:List (Nat×AO)):List V→M V
 | [.ref k,x]=>do
   extL SR k x
   pure .none
 |_=>fail
theorem size_one{a:Nat}(h:a≤100000):a≤sizeLine:=by rw[sizeLine_eq];lia
theorem size_two{a b:Nat}(h:a+b≤100000):a+b≤sizeLine:=by rw[sizeLine_eq];lia
theorem sem_extend(C:c.Ok)(S:SRok c):SemCall c d (.bi "list.extend") (extB c.SR):=by
 intro A ρ st args v st' fv' args' s Q E hA R rf ra h0 hQ
 obtain rfl:=rf.inv
 refine E22 (args2k h0 rfl (λa=>by cases a <;> rfl) (λa _ _ _=>by cases a <;> rfl) λv _ h=>by cases v <;> first|rfl|exact absurd rfl (h _)) λk x e h0=>?_;subst e
 refine E23 ra.two λa' b' e r1 r2=>?_;clear hA ra;subst e
 rw[show a'=.ref (ρ k)from r1.inv.1]
 refine E22 (mbind h0) λu st₁ h1 h2=>?_
 refine E02 (Prod.mk.inj (mpure h2)) λe1 e2=>?_;rw[e1,e2]at hQ
 refine E24 (extL_inv h1) λxs ys q1 q2 q3 e=>?_;rw[(Prod.mk.inj e).2]at hQ
 clear h0 h1 h2 e e1 e2
 refine E22 (R.obj k _ q1) λits m ho rs=>?_
 refine E33 (lsV_at S R r2 q2) λb its2 m2 e hb rs2=>?_;subst e
 clear r1 r2 q2 S
 have l1:its.size=xs.length:=rs.length
 have l2:its2.size=ys.length:=rs2.length
 have hz:its.size+its2.size≤sizeLine:=size_two (by rw[l1,l2];exact q3)
 refine call_meets PySem.F.slot_list_extend ⟨_,ho,rfl⟩ PySem.F.entry_list_extend (PySem.F.args_list_extend_2 _ _) (AutoSeq1.list_extend_list_list_0 (ρ k) its m b its2 m2 (PyProof.Rows.extend_door hz) (Nat.le_trans (Nat.le_add_right _ _) hz) (Nat.le_succ_of_le hz)) ⟨ho,hb,?_⟩
 have ho':(s.heap.update (ρ k) (Obj.mapSeq λx=>x++its2)).get? (ρ k)=some (listOf (its++its2) (if (its++its2).size==its.size then m else m+1)):=Heap.get?_update_self _ ho rfl
 have hs:Heap.SameBut (ρ k) s.heap (s.heap.update (ρ k) (Obj.mapSeq λx=>x++its2)):=Heap.SameBut.update ..
 refine E05 (R.stat C hs (R.low k ⟨_,q1⟩) (R.obj k _ q1).ex) λ_ _ _ _ T=>?_
 have hO:OAt prog w st.n ρ (s.heap.update (ρ k) (Obj.mapSeq λx=>x++its2)) (ρ k) (.list (xs++ys)):=⟨_,_,ho',by rw[Array.toList_append];exact(rs.tr (T _)).append (rs2.tr (T _))⟩
 exact hQ ρ _ s.toks .none (.upd C R q1 hs hO) (R.upd C q1 hs hO) .none
noncomputable def popL(k:Nat):M V:=λst=>match lk k st.H with
 |some (.list xs)=>match xs.getLast? with
  |some x=>match Nat.ble xs.length 100000 with
   |true=>some (x,{st with H:=up k (.list xs.dropLast) st.H})
   |false=>none
  |none=>none
 |_=>none
theorem popL_inv{k:Nat}{st:St}{r:V×St}(e:popL k st=some r):∃xs x,lk k st.H=some (.list xs)∧xs.getLast? =some x∧xs.length≤100000∧r=(x,{st with H:=up k (.list xs.dropLast) st.H}):=by
 unfold popL at e
 cases q:lk k st.H with
 |none=>rw[q]at e;exact nos e
 |some o=>
  rw[q]at e
  cases o with
  |list xs=>
   dsimp only at e
   cases q1:xs.getLast? with
   |none=>rw[q1]at e;exact nos e
   |some x=>
    rw[q1]at e
    dsimp only at e
    cases q2:Nat.ble xs.length 100000 with
    |false=>rw[q2]at e;exact nos e
    |true=>rw[q2]at e;exact I24 xs x rfl q1 (Nat.le_of_ble_eq_true q2) (sni e)
  |_=>exact nos e
noncomputable def popB:List V→M V
 | [.ref k]=>popL k
 |_=>fail
theorem VRs.dropLast{n:Nat}{ρ:Nat→Addr}{h:Heap}{xs:List V}{ys:List Value}(r:VRs n ρ h xs ys):VRs n ρ h xs.dropLast ys.dropLast:=by
 refine VRs.ind (P:=λxs ys=>VRs n ρ h xs.dropLast ys.dropLast) .nil (λ{v v' vs vs'} a r b=>?_) r
 cases vs with
 |nil=>rw[r.inv0];exact .nil
 |cons _ _=>refine E23 r.inv1 λ_ _ e _ _=>?_;subst e;exact .cons a b
theorem pop_list{its:Array Value}(h:its.size-1<its.size):(its.eraseIdxIfInBounds (its.size-1)).toList=its.toList.dropLast:=by
 unfold Array.eraseIdxIfInBounds
 rw[dif_pos h,Array.toList_eraseIdx,List.dropLast_eq_take,List.eraseIdx_eq_take_drop_succ,Nat.sub_add_cancel (Nat.le_of_lt_succ (Nat.succ_lt_succ (Nat.lt_of_le_of_lt (Nat.zero_le _) h))),show List.drop its.size its.toList=[]from List.drop_eq_nil_of_le (Nat.le_refl _),List.append_nil]
 rfl
theorem sem_pop(C:c.Ok):SemCall c d (.bi "list.pop") popB:=by
 refine bi1 rfl (λa _ _=>by cases a <;> rfl) λA ρ st x v st' x' s Q E hA R r1 h0 hQ=>?_
 cases x with
 |ref k=>
  refine E24 (popL_inv h0) λxs x q1 q2 q3 e=>?_;clear hA h0
  rw[(Prod.mk.inj e).1,(Prod.mk.inj e).2]at hQ
  rw[show x'=.ref (ρ k)from r1.inv.1]
  refine E22 (R.obj k _ q1) λits m ho rs=>?_
  have l1:its.size=xs.length:=rs.length
  have g:=rs.getA (i:=its.size-1)
  rw[show xs[its.size-1]? =some x by rw[l1,←List.getLast?_eq_getElem?];exact q2]at g
  refine E12 g λv' hv' rv=>?_;clear g e q2
  refine call_meets PySem.F.slot_list_pop ⟨_,ho,rfl⟩ PySem.F.entry_list_pop (PySem.F.args_list_pop_1 _) (MeetsSeq.list_pop_last (ρ k) its m v' hv' (Nat.le_trans (Nat.le_of_eq l1) (size_one q3))) ⟨ho,?_⟩
  have ho':(s.heap.update (ρ k) (Obj.mapSeq λx=>x.eraseIdxIfInBounds (its.size-1))).get? (ρ k)=some (listOf (its.eraseIdxIfInBounds (its.size-1)) (if (its.eraseIdxIfInBounds (its.size-1)).size==its.size then m else m+1)):=Heap.get?_update_self _ ho rfl
  have hs:Heap.SameBut (ρ k) s.heap (s.heap.update (ρ k) (Obj.mapSeq λx=>x.eraseIdxIfInBounds (its.size-1))):=Heap.SameBut.update ..
  refine E05 (R.stat C hs (R.low k ⟨_,q1⟩) (R.obj k _ q1).ex) λ_ _ _ _ T=>?_
  have hO:OAt prog w st.n ρ (s.heap.update (ρ k) (Obj.mapSeq λx=>x.eraseIdxIfInBounds (its.size-1))) (ρ k) (.list xs.dropLast):=⟨_,_,ho',by rw[pop_list (Array.getElem?_eq_some_iff.mp hv').1];exact rs.dropLast.tr (T _)⟩
  exact hQ ρ _ s.toks v' (.upd C R q1 hs hO) (R.upd C q1 hs hO) (rv.tr (T _))
 |_=>exact nos h0
end
end
section
variable{prog:Program}{w:World}
section
variable{c:Cfg prog w}{ec:Env→Prop}{nl:List Str}{d:Nat}
noncomputable def gtO(k:V):AO→Option (Option V)
 |.idt es=>match k with
  |.int i=>some (lkI i es)
  |_=>none
 |.sd es=>match k with
  |.str x=>some (lkS x es)
  |_=>none
 |.td es=>match k with
  |.tup vs=>match intsV vs with
   |some ks=>some (lkT ks es)
   |none=>none
  |_=>none
 |_=>none
noncomputable def gtD(SR:List (Nat×AO))(dv k dflt:V):M V:=λst=>match rdV SR dv st with
 |some o=>match gtO k o with
  |some (some x)=>some (x,st)
  |some none=>some (dflt,st)
  |none=>none
 |none=>none
theorem gtD_inv{SR:List (Nat×AO)}{dv k dflt:V}{st:St}{r:V×St}(e:gtD SR dv k dflt st=some r):∃o q,rdV SR dv st=some o∧gtO k o=some q∧r=(q.getD dflt,st):=by
 unfold gtD at e
 cases q1:rdV SR dv st with
 |none=>rw[q1]at e;exact nos e
 |some o=>
  rw[q1]at e
  dsimp only at e
  cases q2:gtO k o with
  |none=>rw[q2]at e;exact nos e
  |some z=>
   rw[q2]at e
   refine I23 o z rfl q2 ?_
   cases z with
   |none=>exact sni e
   |some x=>exact sni e
noncomputable def getB(SR:List (Nat×AO)):List V→M V
 | [dv,k]=>gtD SR dv k .none
 | [dv,k,dflt]=>gtD SR dv k dflt
 |_=>fail
noncomputable def OptR(n:Nat)(ρ:Nat→Addr)(h:Heap)(q:Option V)(v0:Option Value):Prop:=match q with
 |some v=>∃v',v0=some v'∧VR n ρ h v v'
 |none=>v0=none
theorem gtO_inv{k:V}{o:AO}{q:Option V}(e:gtO k o=some q):(∃es i,o=.idt es∧k=.int i∧lkI i es=q)∨(∃es x,o=.sd es∧k=.str x∧lkS x es=q)∨∃es vs ks,o=.td es∧k=.tup vs∧intsV vs=some ks∧lkT ks es=q:=by
 refine bc λhno=>?_
 generalize h1:o=o1 at e
 generalize h2:k=k1 at e
 cases o1 with
 |idt es=>cases k1 with
  |int i=>exact hno (.inl ⟨es,i,h1,h2,sin e⟩)
  |_=>exact nos e
 |sd es=>cases k1 with
  |str i=>exact hno (.inr (.inl ⟨es,i,h1,h2,sin e⟩))
  |_=>exact nos e
 |td es=>cases k1 with
  |tup vs=>
   have e':(match intsV vs with|some ks=>some (lkT ks es)|none=>none)=some q:=e
   clear e
   cases q1:intsV vs with
   |none=>rw[q1]at e';exact nos e'
   |some ks=>rw[q1]at e';exact hno (.inr (.inr ⟨es,vs,ks,h1,h2,q1,sin e'⟩))
  |_=>exact nos e
 |_=>exact nos e
theorem get_core(S:SRok c){A:Around}(hA:AOk d A){ρ:Nat→Addr}{st:St}{dv k dflt:V}{q:Option V}{o:AO}{dv' k' dflt':Value}{s:Shared}{Q:Value→Shared→Prop}{E:Value→Shared→Prop}(R:RelH c ρ st s.heap)(rd:VR st.n ρ s.heap dv dv')(rk:VR st.n ρ s.heap k k')(rf:VR st.n ρ s.heap dflt dflt')
 (h1:rdV c.SR dv st=some o) (h2:gtO k o=some q) (three:Bool) (hz:three=false→dflt'=.none)
 (hQ:∀tk v',VR st.n ρ s.heap (q.getD dflt) v'→Q v' {s with toks:=tk}):wpAny (model prog w) A (call (.builtin "dict.get") (dv'::k'::(if three then [dflt']else []))) Q E s:=by
 have hu:A.units+1<cLine:=Nat.lt_of_le_of_lt (Nat.add_le_add_left (by decide) _) hA.units64
 refine E12 (R.rdV S rd h1) λa e hat=>?_;clear S hA R rd h1;subst e
 have fin:∀ {v0:Option Value} (tk:Tok),OptR st.n ρ s.heap q v0→Q (v0.getD dflt') {s with toks:=tk}:=by
  intro v0 tk g
  clear rk h2 hz hu hat;cases q with
  |none=>rw[show v0=none from g];exact hQ tk _ rf
  |some v=>refine E12 g λv' e rv=>?_;rw[e];exact hQ tk _ rv
 clear hQ rf
 rcases gtO_inv h2 with y|y|y
 ·refine E23 y λes i e1 e2 hq=>?_;clear y h2 hu;subst e1;subst e2
  refine E11 rk.inv λt e=>?_;clear rk;subst e
  refine E02 hat λhsys y=>?_;clear hat;refine E12 y λkvs hd kv=>?_;clear y
  have g:=kv.getI i
  rw[hq]at g
  clear kv hq
  cases three with
  |false=>
   rw[hz rfl]at fin
   exact call_meetsIn PySem.F.slot_dict_get hd.typeIs PySem.F.entry_dict_get (PySem.F.args_dict_get_2 _ _) (meets_dict_get (PySem.intKind prog w) a (intKind_is prog w i t) hsys) ⟨_,hd.mapOf,fin _ g⟩
  |true=>exact call_meetsIn PySem.F.slot_dict_get hd.typeIs PySem.F.entry_dict_get (PySem.F.args_dict_get_3 _ _ _) (meets_dict_get_default (PySem.intKind prog w) a (intKind_is prog w i t) hsys dflt') ⟨_,hd.mapOf,fin _ g⟩
 ·refine E23 y λes l e1 e2 hq=>?_;clear y h2 hu;subst e1;subst e2
  refine E22 rk.inv λz t e hz=>?_;clear rk;subst e;subst hz
  refine E02 hat λhsys y=>?_;clear hat;refine E12 y λkvs hd kv=>?_;clear y
  have g:=kv.getS z
  rw[hq]at g
  clear kv hq
  cases three with
  |false=>
   rw[hz rfl]at fin
   exact call_meetsIn PySem.F.slot_dict_get hd.typeIs PySem.F.entry_dict_get (PySem.F.args_dict_get_2 _ _) (meets_dict_get (PySem.strKind prog w) a (strKind_is prog w z t) hsys) ⟨_,hd.mapOf,fin _ g⟩
  |true=>exact call_meetsIn PySem.F.slot_dict_get hd.typeIs PySem.F.entry_dict_get (PySem.F.args_dict_get_3 _ _ _) (meets_dict_get_default (PySem.strKind prog w) a (strKind_is prog w z t) hsys dflt') ⟨_,hd.mapOf,fin _ g⟩
 ·refine E34 y λes vs ks e1 e2 qk hq=>?_;clear y h2;subst e1;subst e2
  refine E02 hat λhsys y=>?_;clear hat;refine E12 y λxs hd kv=>?_;clear y
  refine E23 rk.inv λz _ e _ _=>?_;subst e
  have g0:=kv.getT ks
  rw[hq]at g0
  clear kv hq
  have g:OptR st.n ρ s.heap q ((atKey xs ks).map (·.2)):=by
   clear hz hu fin hsys hd rk;cases q with
   |none=>show Option.map _ _=none;rw[show atKey xs ks=none from g0];rfl
   |some v=>exact E12 g0 λp hp rp=>I12 p.2 (by rw[hp];rfl) rp
  clear g0
  cases three with
  |false=>
   rw[hz rfl]at fin
   exact call_meetsIn PySem.F.slot_dict_get hd.typeIs PySem.F.entry_dict_get (PySem.F.args_dict_get_2 _ _) (meetsH_dict_get (PySem.tupleKind (PySem.intKind prog w)) a z hsys) ⟨hu,ks,xs,tup_key qk rk,hd,fin _ g⟩
  |true=>exact call_meetsIn PySem.F.slot_dict_get hd.typeIs PySem.F.entry_dict_get (PySem.F.args_dict_get_3 _ _ _) (meetsH_dict_get_default (PySem.tupleKind (PySem.intKind prog w)) a z hsys dflt') ⟨hu,ks,xs,tup_key qk rk,hd,fin _ g⟩
theorem getB_inv{SR:List (Nat×AO)}{args:List V}{st:St}{r:V×St}(e:getB SR args st=some r):(∃a b,args=[a,b]∧gtD SR a b .none st=some r)∨∃a b f,args=[a,b,f]∧gtD SR a b f st=some r:=by
 cases args with
 |nil=>exact nos e
 |cons a t=>cases t with
  |nil=>exact nos e
  |cons b t=>cases t with
   |nil=>exact .inl ⟨a,b,rfl,e⟩
   |cons f t=>cases t with
    |nil=>exact .inr ⟨a,b,f,rfl,e⟩
    |cons _ _=>exact nos e
theorem sem_get(S:SRok c):SemCall c d (.bi "dict.get") (getB c.SR):=by
 intro A ρ st args v st' fv' args' s Q E hA R rf ra h0 hQ
 obtain rfl:=rf.inv
 rcases getB_inv h0 with y|y
 ·refine E22 y λa b e h0=>?_;clear y;subst e
  refine E23 ra.two λa' b' e r1 r2=>?_;clear ra;subst e
  refine E23 (gtD_inv h0) λo q h1 h2 e=>?_;clear h0
  have e2:=(Prod.mk.inj e).2
  rw[(Prod.mk.inj e).1,e2]at hQ
  exact get_core S hA R r1 r2 .none h1 h2 false (λ_=>rfl) λtk v' rv=>hQ ρ s.heap tk v' .refl R rv
 ·refine E32 y λa b f e h0=>?_;clear y;subst e
  refine E34 ra.three λa' b' f' e r1 r2 r3=>?_;clear ra;subst e
  refine E23 (gtD_inv h0) λo q h1 h2 e=>?_;clear h0
  have e2:=(Prod.mk.inj e).2
  rw[(Prod.mk.inj e).1,e2]at hQ
  exact get_core S hA R r1 r2 r3 h1 h2 true (λz=>ntf z) λtk v' rv=>hQ ρ s.heap tk v' .refl R rv
noncomputable def lenV(SR:List (Nat×AO))(v:V)(st:St):Option Nat:=match v with
 |.tup vs=>some vs.length
 |.ref k=>match lsV SR (.ref k) st with
  |some xs=>some xs.length
  |none=>none
 |.adr a=>match lsV SR (.adr a) st with
  |some xs=>some xs.length
  |none=>none
 |_=>none
noncomputable def lenB(SR:List (Nat×AO)):List V→M V
 | [v]=>λst=>match lenV SR v st with
   |some n=>match Nat.ble n 1000000 with
    |true=>some (.int n,st)
    |false=>none
   |none=>none
 |_=>fail
theorem lenV_inv{SR:List (Nat×AO)}{v:V}{st:St}{n:Nat}(e:lenV SR v st=some n):(∃vs,v=.tup vs∧vs.length=n)∨∃xs,lsV SR v st=some xs∧xs.length=n:=by
 have g:(match lsV SR v st with|some xs=>some xs.length|none=>none)=some n→∃xs,lsV SR v st=some xs∧xs.length=n:=λh=>by
  cases q:lsV SR v st with
  |none=>rw[q]at h;exact nos h
  |some xs=>rw[q]at h;exact⟨xs,rfl,sin h⟩
 cases v with
 |tup vs=>exact .inl ⟨vs,rfl,sin e⟩
 |ref k=>exact .inr (g e)
 |adr a=>exact .inr (g e)
 |_=>exact nos e
theorem lenB_inv{SR:List (Nat×AO)}{v:V}{st:St}{r:V×St}(e:lenB SR [v] st=some r):∃n:Nat,lenV SR v st=some n∧n≤1000000∧r=(.int n,st):=by
 have e':(match lenV SR v st with
  |some n=>match Nat.ble n 1000000 with
   |true=>some (V.int n,st)
   |false=>none
  |none=>none)=some r:=e
 clear e
 cases q:lenV SR v st with
 |none=>rw[q]at e';exact nos e'
 |some n=>
  rw[q]at e'
  dsimp only at e'
  cases q2:Nat.ble n 1000000 with
  |false=>rw[q2]at e';exact nos e'
  |true=>rw[q2]at e';exact I13 n rfl (Nat.le_of_ble_eq_true q2) (sni e')
theorem len_fits{n:Nat}(h:n≤1000000):(n:Int)<2 ^ 63:=Int.lt_of_le_of_lt (Int.ofNat_le.mpr h) (by decide)
theorem sem_len(S:SRok c):SemCall c d (.bi "len") (lenB c.SR):=by
 refine bi1 rfl (λ_ _ _=>rfl) λA ρ st x v st' x' s Q E hA R r1 h0 hQ=>?_
 refine E13 (lenB_inv h0) λn q hn e=>?_;clear h0 hA
 have e2:=(Prod.mk.inj e).2
 rw[(Prod.mk.inj e).1,e2]at hQ
 have fin:∀tk t,Q (.int n t) {s with toks:=tk}:=λtk t=>hQ ρ s.heap tk _ .refl R (.int n t)
 clear hQ e e2
 rcases lenV_inv q with y|y
 ·refine E12 y λvs e hl=>?_;clear y q;subst e
  refine E23 r1.inv λb its e ht rs=>?_;clear r1;subst e
  have e:its.size=n:=rs.length.trans hl
  refine PyProof.Rows.len_tuple (items:=its) ht (e▸len_fits hn) ?_
  rw[e];exact fin _ _
 ·refine E12 y λxs hx hl=>?_;clear y q
  refine E33 (lsV_at S R r1 hx) λb its m e ho rs=>?_;clear r1;subst e
  have e:its.size=n:=rs.length.trans hl
  refine call_len_list (items:=its) ⟨_,ho,rfl,m,rfl⟩ (e▸len_fits hn) ?_
  rw[e];exact fin _ _
noncomputable def intB:List V→M V
 | [.int i]=>pure (.int i)
 |_=>fail
theorem sem_int:SemCall c d (.ty "int") intB:=by
 refine ty1 rfl (λa _ _=>by cases a <;> rfl) λA ρ st x v st' x' s Q E hA R r1 h0 hQ=>?_
 cases x with
 |int i=>
  refine E02 (Prod.mk.inj (mpure h0)) λe1 e2=>?_
  rw[e1,e2]at hQ
  refine E11 r1.inv λt e=>?_;rw[e]
  exact call_int_int (hQ ρ s.heap s.toks _ .refl R (.int _ _))
 |_=>exact nos h0
noncomputable def boolB:List V→M V
 | [.bool b]=>pure (.bool b)
 |_=>fail
theorem sem_bool:SemCall c d (.ty "bool") boolB:=by
 refine ty1 rfl (λa _ _=>by cases a <;> rfl) λA ρ st x v st' x' s Q E hA R r1 h0 hQ=>?_
 cases x with
 |bool b=>
  refine E02 (Prod.mk.inj (mpure h0)) λe1 e2=>?_
  rw[e1,e2]at hQ
  rw[show x'=.bool b from r1.inv]
  exact call_bool_bool (hQ ρ s.heap s.toks _ .refl R (.bool _))
 |_=>exact nos h0
noncomputable def cpyL(SR:List (Nat×AO))(v:V):M V:=λst=>match lsV SR v st with
 |some xs=>match Nat.ble xs.length 100000 with
  |true=>some (.ref st.n,st.add (.list xs))
  |false=>none
 |none=>none
noncomputable def listB(SR:List (Nat×AO)):List V→M V
 | [v]=>cpyL SR v
 |_=>fail
noncomputable def cpyT(SR:List (Nat×AO))(v:V):M V:=λst=>match lsV SR v st with
 |some xs=>match Nat.ble xs.length 100000 with
  |true=>some (.tup xs,st)
  |false=>none
 |none=>none
noncomputable def tupleB(SR:List (Nat×AO)):List V→M V
 | [v]=>cpyT SR v
 |_=>fail
theorem list_newA(C:c.Ok){ρ:Nat→Addr}{st:St}{h h':Heap}(R:RelH c ρ st h)(k:∀b o,h.get? b=some o→h'.get? b=some o){a:Addr}(ha:h.get? a=none){xs:List V}{its:Array Value}{m:Nat}(ho:h'.get? a=some (listOf its m))(r:VRs st.n ρ h xs its.toList):
 Nx c NoA ρ st h (put ρ st.n a) (st.add (.list xs)) h'∧RelH c (put ρ st.n a) (st.add (.list xs)) h'∧VR (st.n+1) (put ρ st.n a) h' (.ref st.n) (.ref a):=by
 have T:Tr st.n ρ h st.n ρ h':=⟨Nat.le_refl _,λ_ _=>rfl,λb items x=>let⟨o,e,q⟩:=x;⟨o,k _ _ e,q⟩⟩
 refine I03 (.alloc R k ha) (.alloc C R k ha ⟨its,m,ho,r.tr T⟩) ?_
 have e:put ρ st.n a st.n=a:=if_pos rfl
 have q:=VR.ref (n:=st.n+1) (ρ:=put ρ st.n a) (h:=h') (k:=st.n) (Nat.lt_succ_self _)
 rwa [e]at q
theorem cpy_inv{SR:List (Nat×AO)}{v:V}{st:St}{r:V×St}{f:List V→V×St}(e:(match lsV SR v st with
 |some xs=>match Nat.ble xs.length 100000 with
  |true=>some (f xs)
  |false=>none
 |none=>none)=some r):∃xs,lsV SR v st=some xs∧xs.length≤100000∧r=f xs:=by
 cases q:lsV SR v st with
 |none=>rw[q]at e;exact nos e
 |some xs=>
  rw[q]at e
  dsimp only at e
  cases q2:Nat.ble xs.length 100000 with
  |false=>rw[q2]at e;exact nos e
  |true=>rw[q2]at e;exact I13 xs rfl (Nat.le_of_ble_eq_true q2) (sni e)
theorem cpy_fits{n:Nat}(h:n≤100000):n≤sizeLine:=by rw[sizeLine_eq];lia
theorem sem_list(C:c.Ok)(S:SRok c):SemCall c d (.ty "list") (listB c.SR):=by
 refine ty1 rfl (λ_ _ _=>rfl) λA ρ st x v st' x' s Q E hA R r1 h0 hQ=>?_
 refine E13 (cpy_inv (f:=λxs=>(.ref st.n,st.add (.list xs))) h0) λxs q hn e=>?_;clear h0 hA
 have e2:=(Prod.mk.inj e).2
 rw[(Prod.mk.inj e).1,e2]at hQ
 refine E33 (lsV_at S R r1 q) λb its m e ho rs=>?_;clear S r1 q;subst e
 have l1:its.size=xs.length:=rs.length
 refine call_list_seq b (T:="list") (.inl rfl) ho rfl rfl (λh' c' hk hn'=>?_) (cpy_fits (l1▸hn))
 exact E03 (list_newA C R hk fresh_size (m:=c') hn' rs) λN R' rv=>hQ _ h' s.toks _ N R' rv
theorem sem_tuple(C:c.Ok)(S:SRok c):SemCall c d (.ty "tuple") (tupleB c.SR):=by
 refine ty1 rfl (λ_ _ _=>rfl) λA ρ st x v st' x' s Q E hA R r1 h0 hQ=>?_
 refine E13 (cpy_inv (f:=λxs=>(.tup xs,st)) h0) λxs q hn e=>?_;clear h0 hA
 have e2:=(Prod.mk.inj e).2
 rw[(Prod.mk.inj e).1,e2]at hQ
 refine E33 (lsV_at S R r1 q) λb its m e ho rs=>?_;clear S r1 q;subst e
 have l1:its.size=xs.length:=rs.length
 refine call_tuple_list (items:=its) ⟨_,ho,rfl,m,rfl⟩ (λh' hk=>?_) (cpy_fits (l1▸hn))
 have k2:∀z o,s.heap.get? z=some o→(h'.push {cls:=.type "tuple",data:=.seq its}).get? z=some o:=λz o e=>Heap.get?_push_of_some _ (hk z o e)
 have N:=Nx.keep (c:=c) (fp:=NoA) (ρ:=ρ) (st:=st) k2
 exact hQ ρ _ s.toks _ N (R.keep C k2) (.tup ⟨_,Heap.get?_push_size _ rfl,rfl,_,rfl⟩ (rs.tr N.tr))
noncomputable def maxZ:List Int→Option Int
 | []=>none
 |a::r=>match maxZ r with
  |some b=>some (if b > a then b else a)
  |none=>some a
theorem maxZ_cons{a:Int}{r:List Int}{m:Int}(h:maxZ (a::r)=some m):(r=[]∧m=a)∨∃b,maxZ r=some b∧m=if b > a then b else a:=by
 have h':(match maxZ r with|some b=>some (if b > a then b else a)|none=>some a)=some m:=h
 clear h
 cases q:maxZ r with
 |some b=>rw[q]at h';exact .inr ⟨b,rfl,sni h'⟩
 |none=>
  rw[q]at h'
  cases r with
  |nil=>exact .inl ⟨rfl,sni h'⟩
  |cons b r=>
   have q':(match maxZ r with|some e=>some (if e > b then e else b)|none=>some b)=none:=q
   clear q
   cases q2:maxZ r with
   |none=>rw[q2]at q';exact nso q'
   |some e=>rw[q2]at q';exact nso q'
theorem maxZ_top{ns:List Int}{m:Int}(h:maxZ ns=some m):m∈ns∧∀x∈ns,x≤m:=by
 induction ns generalizing m with
 |nil=>exact nos h
 |cons a r ih=>
  rcases maxZ_cons h with⟨e1,e2⟩|⟨b,q,e⟩
  ·rw[e1,e2];exact⟨List.mem_cons_self,λx hx=>Int.le_of_eq (List.mem_singleton.mp hx)⟩
  ·refine E02 (ih q) λh1 h2=>?_
   by_cases hc:b > a
   ·rw[e,if_pos hc];exact⟨List.mem_cons_of_mem _ h1,λx hx=>(List.mem_cons.mp hx).elim (λz=>z▸Int.le_of_lt hc) (h2 x)⟩
   ·rw[e,if_neg hc];exact⟨List.mem_cons_self,λx hx=>(List.mem_cons.mp hx).elim (λz=>Int.le_of_eq z) λz=>Int.le_trans (h2 x z) (Int.not_lt.mp hc)⟩
theorem maxZ_spec{ns:List Int}{m M:Int}(h:maxZ ns=some m)(hm:M∈ns)(hle:∀a∈ns,a≤M):M=m:=Int.le_antisymm ((maxZ_top h).2 M hm) (hle m (maxZ_top h).1)
noncomputable def maxB(SR:List (Nat×AO)):List V→M V
 | [.int a,.int b]=>pure (.int (if b > a then b else a))
 | [v]=>λst=>match lsV SR v st with
   |some xs=>match intsV xs with
    |some ns=>match maxZ ns with
     |some m=>some (.int m,st)
     |none=>none
    |none=>none
   |none=>none
 |_=>fail
theorem maxB_inv{SR:List (Nat×AO)}{args:List V}{st:St}{r:V×St}(e:maxB SR args st=some r):(∃a b,args=[.int a,.int b]∧r=(.int (if b > a then b else a),st))∨∃v xs ns m,args=[v]∧lsV SR v st=some xs∧intsV xs=some ns∧maxZ ns=some m∧r=(.int m,st):=by
 refine bc λhno=>?_
 generalize h1:args=l at e
 cases l with
 |nil=>exact nos e
 |cons v t=>cases t with
  |nil=>
   have e':(match lsV SR v st with
    |some xs=>match intsV xs with
     |some ns=>match maxZ ns with
      |some m=>some (V.int m,st)
      |none=>none
     |none=>none
    |none=>none)=some r:=by cases v <;> exact e
   clear e
   cases q:lsV SR v st with
   |none=>rw[q]at e';exact nos e'
   |some xs=>
    rw[q]at e';dsimp only at e'
    cases q2:intsV xs with
    |none=>rw[q2]at e';exact nos e'
    |some ns=>
     rw[q2]at e';dsimp only at e'
     cases q3:maxZ ns with
     |none=>rw[q3]at e';exact nos e'
     |some m=>rw[q3]at e';exact hno (.inr ⟨v,xs,ns,m,h1,q,q2,q3,sni e'⟩)
  |cons b t=>cases t with
   |nil=>cases v with
    |int i=>cases b with
     |int j=>exact hno (.inl ⟨i,j,h1,sni e⟩)
     |_=>exact nos e
    |_=>exact nos e
   |cons _ _=>cases v with
    |int i=>cases b <;> exact nos e
    |_=>exact nos e
theorem sem_max(C:c.Ok)(S:SRok c):SemCall c d (.bi "max") (maxB c.SR):=by
 intro A ρ st args v st' fv' args' s Q E hA R rf ra h0 hQ
 obtain rfl:=rf.inv
 rcases maxB_inv h0 with y|y
 ·refine E22 y λa b e1 e=>?_;clear y h0 S;subst e1
  have e2:=(Prod.mk.inj e).2
  rw[(Prod.mk.inj e).1,e2]at hQ
  refine E23 ra.two λa' b' e r1 r2=>?_;clear ra;subst e
  refine E11 r1.inv λt e=>?_;subst e
  refine E11 r2.inv λu e=>?_;subst e
  refine max_two_ints hA.1 λh' tk hk=>?_
  have f:=λv' r=>hQ ρ h' tk v' (.keep hk) (R.keep C hk) r
  by_cases q:b > a
  ·rw[if_pos q]at *;exact f _ (.int _ _)
  ·rw[if_neg q]at *;exact f _ (.int _ _)
 ·refine E45 y λx xs ns m e1 q q2 q3 e=>?_;clear y h0;subst e1
  have e2:=(Prod.mk.inj e).2
  rw[(Prod.mk.inj e).1,e2]at hQ
  refine E12 ra.one λa' e r1=>?_;clear ra e2;subst e
  refine E33 (lsV_at S R r1 q) λb its m' e ho rs=>?_;clear S r1 q;subst e
  have hi:=intsV_ints q2 rs
  clear q2 rs;refine E11 hi.allInts.items λys e=>?_
  have hns:ns=ys.toList.map (·.1):=by rw[←hi.numsOf,←nums_intItems,←e]
  have hne:0<ns.length:=List.length_pos_of_mem (maxZ_top q3).1
  have hlen:ns.length=ys.size:=by rw[hns,List.length_map,Array.length_toList]
  have hsz:0<ys.size:=hlen▸hne
  have e':its=intItems ys:=e
  have hL:s.heap.IsList b (intItems ys):=by rw[←e'];exact⟨_,ho,rfl,m',rfl⟩
  refine max_intList hA.1 hL hsz λv h' tk hv hk=>?_
  clear hA hL ho hi e e'
  refine E11 (intItems_at hv) λt e=>?_;subst e
  refine E02 (argBest_gt (numAt ys) (ys.size-1)) λh1 h2=>?_
  have hM:numAt ys (argBest (λi j=>decide (numAt ys i > numAt ys j)) (ys.size-1))=m:=by
   refine maxZ_spec q3 ?_ λa ha=>?_
   ·rw[hns,numAt_eq];exact getD_mem (by rw[List.length_map,Array.length_toList];exact Nat.lt_of_le_of_lt h1 (Nat.sub_lt hsz Nat.one_pos))
   ·rw[hns]at ha
    refine E12 (mem_getD ha) λj hj e=>?_;rw[←e]
    rw[List.length_map,Array.length_toList]at hj
    rw[←numAt_eq];exact h2 j (Nat.le_sub_one_of_lt hj)
  rw[hM]
  exact hQ ρ h' tk _ (.keep hk) (R.keep C hk) (.int _ _)
noncomputable def minB:List V→M V
 | [.int a,.int b]=>pure (.int (if b<a then b else a))
 |_=>fail
theorem minB_inv{args:List V}{st:St}{r:V×St}(e:minB args st=some r):∃a b,args=[.int a,.int b]∧r=(.int (if b<a then b else a),st):=by
 refine bc λhno=>?_
 generalize h1:args=l at e
 cases l with
 |nil=>exact nos e
 |cons v t=>cases v with
  |int i=>cases t with
   |nil=>exact nos e
   |cons b t=>cases b with
    |int j=>cases t with
     |nil=>exact hno ⟨i,j,h1,sni e⟩
     |cons _ _=>exact nos e
    |_=>exact nos e
  |_=>exact nos e
theorem sem_min(C:c.Ok):SemCall c d (.bi "min") minB:=by
 intro A ρ st args v st' fv' args' s Q E hA R rf ra h0 hQ
 obtain rfl:=rf.inv
 refine E22 (minB_inv h0) λa b e1 e=>?_;clear h0;subst e1
 have e2:=(Prod.mk.inj e).2
 rw[(Prod.mk.inj e).1,e2]at hQ
 refine E23 ra.two λa' b' e r1 r2=>?_;clear ra;subst e
 refine E11 r1.inv λt e=>?_;subst e
 refine E11 r2.inv λu e=>?_;subst e
 refine min_two_ints hA.1 λh' tk hk=>?_
 have f:=λv' r=>hQ ρ h' tk v' (.keep hk) (R.keep C hk) r
 by_cases q:b<a
 ·rw[if_pos q]at *;exact f _ (.int _ _)
 ·rw[if_neg q]at *;exact f _ (.int _ _)
end
end
section
variable{prog:Program}{w:World}
section
variable{c:Cfg prog w}{ec:Env→Prop}{nl:List Str}{d:Nat}
noncomputable def isB:V→Option Bool
 |.none=>some false
 |.int _=>some false
 |.str _=>some false
 |.bool _=>some true
 |.tup _=>some false
 |_=>none
noncomputable def isiB:List V→M V
 | [v,.ty t]=>λst=>match t=="bool" with
   |true=>match isB v with
    |some b=>some (.bool b,st)
    |none=>none
   |false=>none
 |_=>fail
theorem isiB_inv{args:List V}{st:St}{r:V×St}(h:isiB args st=some r):∃v b,args=[v,.ty "bool"]∧isB v=some b∧r=(.bool b,st):=by
 refine bc λhno=>?_
 cases args with
 |nil=>exact nos h
 |cons v t=>cases t with
  |nil=>exact nos h
  |cons a t=>cases t with
   |cons _ _=>cases a <;> exact nos h
   |nil=>cases a with
    |ty t=>
     have h':(match t=="bool" with|true=>(match isB v with|some b=>some (V.bool b,st)|none=>none)|false=>none)=some r:=h
     clear h
     cases q:t=="bool" with
     |false=>rw[q]at h';exact nos h'
     |true=>
      rw[q]at h'
      obtain rfl:=eq_of_beq q
      clear q;revert h'
      cases q2:isB v with
      |none=>exact λe=>nos e
      |some b=>exact λe=>hno ⟨v,b,rfl,q2,sni e⟩
    |_=>exact nos h
theorem sem_isi:SemCall c d (.bi "isinstance") isiB:=by
 intro A ρ st args v st' fv' args' s Q E hA R rf ra h0 hQ
 obtain rfl:=rf.inv
 refine E23 (isiB_inv h0) λx b q1 hb q3=>?_;clear h0 hA rf;subst q1
 refine E02 (Prod.mk.inj q3) λq4 q5=>?_;clear q3;subst q4;subst q5
 refine E23 ra.two λa' b' q r1 r2=>?_;clear ra;subst q
 obtain rfl:=r2.inv
 clear r2
 have q:=r1.inv
 cases x with
 |none=>obtain rfl:=sin hb;obtain rfl:=q;exact IsiPair.NoneType_bool (hQ ρ s.heap _ _ .refl R (.bool _))
 |int i=>obtain rfl:=sin hb;refine E11 q λt e=>?_;rw[e];exact IsiPair.int_bool (hQ ρ s.heap _ _ .refl R (.bool _))
 |str l=>obtain rfl:=sin hb;refine E22 q λy t e _=>?_;rw[e];exact IsiPair.str_bool (hQ ρ s.heap _ _ .refl R (.bool _))
 |bool b=>obtain rfl:=sin hb;rw[show a'=.bool b from q];exact IsiPair.bool_bool (hQ ρ s.heap s.toks _ .refl R (.bool _))
 |tup vs=>obtain rfl:=sin hb;refine E23 q λa items e ht _=>?_;rw[e];refine E13 ht λo ho hc _=>?_;exact IsiPair.tuple_bool ho hc (hQ ρ s.heap _ _ .refl R (.bool _))
 |_=>exact nos hb
noncomputable def sort2:List V→Option (List V)
 | [.int a,.int b]=>some (if a≤b then [.int a,.int b]else [.int b,.int a])
 |_=>none
noncomputable def sortB(SR:List (Nat×AO)):List V→M V
 | [v]=>λst=>match lsV SR v st with
   |some xs=>match sort2 xs with
    |some ys=>some (.ref st.n,st.add (.list ys))
    |none=>none
   |none=>none
 |_=>fail
theorem sort2_inv{xs ys:List V}(e:sort2 xs=some ys):∃a b,xs=[.int a,.int b]∧ys=if a≤b then [.int a,.int b]else [.int b,.int a]:=by
 refine bc λhno=>?_
 cases xs with
 |nil=>exact nos e
 |cons x t=>cases x with
  |int a=>cases t with
   |nil=>exact nos e
   |cons y t=>cases y with
    |int b=>cases t with
     |nil=>exact hno ⟨a,b,rfl,sni e⟩
     |cons _ _=>exact nos e
    |_=>exact nos e
  |_=>exact nos e
theorem sort2_out{a b:Int}{ns:List Int}(h1:ns.Perm [a,b])(h2:ns.Pairwise (· ≤ ·)):(if a≤b then [V.int a,V.int b]else [V.int b,V.int a])=ns.map V.int:=by
 have hp:(if a≤b then [a,b]else [b,a]).Perm ns:=by
  split
  ·exact h1.symm
  ·exact(List.Perm.swap a b []).trans h1.symm
 have hs:(if a≤b then [a,b]else [b,a]).Pairwise (· ≤ ·):=by
  split
  ·next h=>exact .cons (λx hx=>by rw[List.mem_singleton]at hx;rw[hx];exact h) (List.pairwise_singleton ..)
  ·next h=>exact .cons (λx hx=>by rw[List.mem_singleton]at hx;rw[hx];exact Int.le_of_lt (Int.not_le.mp h)) (List.pairwise_singleton ..)
 rw[←hp.eq_of_pairwise (λa b _ _ x y=>Int.le_antisymm x y) hs h2]
 split <;> rfl
theorem sem_sort(C:c.Ok)(S:SRok c):SemCall c d (.bi "sorted") (sortB c.SR):=by
 intro A ρ st args v st' fv' args' s Q E hA R rf ra h0 hQ
 obtain rfl:=rf.inv
 refine E12 (args1 (F:=λl=>sortB c.SR l st) h0 rfl λ_ _ _=>rfl) λx q h1=>?_;clear h0 rf hA;subst q
 have h2:(match lsV c.SR x st with|some xs=>(match sort2 xs with|some ys=>some (V.ref st.n,st.add (.list ys))|none=>none)|none=>none)=some (v,st'):=h1
 clear h1
 refine E12 ra.one λa' q r1=>?_;clear ra;subst q
 cases q:lsV c.SR x st with
 |none=>rw[q]at h2;exact nos h2
 |some xs=>
  rw[q]at h2
  cases q2:sort2 xs with
  |none=>simp only[q2]at h2;exact nos h2
  |some ys=>
   simp only[q2]at h2
   refine E02 (spi h2) λe1 e2=>?_;clear h2;subst e1;subst e2
   refine E22 (sort2_inv q2) λa b e1 e2=>?_;clear q2;subst e1
   refine E33 (lsV_at S R r1 q) λz its m e3 ho rs=>?_;clear S r1 q;subst e3
   have hL:s.heap.IsList z its.toList.toArray:=⟨_,ho,rfl,m,rfl⟩
   have hi:IntsAre its.toList [a,b]:=intsV_ints (vs:=[.int a,.int b]) rfl rs
   refine sorted_ints hL hi (by rw[hi.length];exact Nat.lt_of_sub_eq_succ rfl) λout ns' h1 h2 h3=>?_
   refine E11 (sortedAll_at s.heap its.toList out) λe he=>?_
   have hk:∀y o,s.heap.get? y=some o→(sortedAll s.heap its.toList out).get? y=some o:=λ_ _=>sortedAll_old
   rw[e2.trans (sort2_out h2 h3)]at hQ
   refine E03 (list_newA C R hk (a:=s.heap.objs.size+1) (Heap.get?_none_of_le (Nat.le_succ _)) he (VRs.of_ints (n:=st.n) (ρ:=ρ) (h:=s.heap) h1)) λN R' rv=>?_
   exact hQ _ _ s.toks _ N R' rv
noncomputable def enmI(SR:List (Nat×AO)):List V→M (Nat→St→Option (Option V))
 | [v]=>λst=>match lsV SR v st with
   |some _=>some (itE SR v,st)
   |none=>none
 |_=>fail
theorem SemI.enum{elts:List Expr}{k:Nat}{tpos:Pos}{fe:Expr}{args:List Expr}{pos:Pos}{fs:Loc→M (List V)}(C:c.Ok)(S:SRok c)(hp:plainEs args=true)(hfe:SemE c ec nl d fe λ_=>pure (.ty "enumerate"))(ha:SemEs c ec nl d args fs)(hx:∃x p,fe=.Name x p):
 SemI c ec nl d (.Tuple elts k tpos) (.Call fe args [] pos) (λl=>do let vs ←fs l;enmI c.SR vs):=by
 intro A env l ρ st item st' s Q E he hA R X h0 hQ
 refine E22 (mbind h0) λvs st₁ hf hr=>?_
 refine call_gen C (Keep.ty (x:="enumerate")) hp hfe ha hx he hA R X hf λρ₁ h₁ tk₁ fv' vs' N₁ R₁ X₁ rf rs=>?_
 cases rf
 unfold enmI at hr
 split at hr
 ·rename_i x
  refine bc λhno=>?_;refine E12 rs.one λa' q9953 r1=>?_;clear hp hfe ha hx he hA X h0 hf rs;subst q9953
  cases q:lsV c.SR x st₁ with
  |none=>rw[q]at hr;exact nos hr
  |some xs=>
   rw[q]at hr;refine E02 (spj hr) λq9981 q9982=>?_;subst q9981;subst q9982
   refine E33 (lsV_at S R₁ r1 q) λa its m q9988 ho rs'=>?_;subst q9988
   refine hno ?_;refine call_enumerate_list (s:={s with heap:=h₁,toks:=tk₁}) ⟨_,ho,rfl,m,rfl⟩ λh₂ he₂ hit₂ hz₂ hk₂=>?_
   refine wpAny_pyIter_enum (s:={s with heap:=h₂,toks:=tk₁}) he₂ ?_
   dsimp only at he₂ hit₂ hz₂ hk₂
   have N₂:=Nx.keep (c:=c) (fp:=NoA) (ρ:=ρ₁) (st:=st') hk₂
   have R₂:=R₁.keep C hk₂
   have X₂:=X₁.nx C R₁ R₂ N₂
   have fr:∀b,h₁.objs.size≤b→s.heap.get? b=none:=λb hb=>by
    cases e:s.heap.get? b with
    |none=>rfl
    |some o=>
     refine E11 (N₁.th _ _ e) λo' e'=>?_
     exact nn (Heap.get?_none_of_le hb) e'
   have nh:∀b,h₁.objs.size≤b→∀k,Has k st'.H∨Has k st'.F→ρ₁ k≠b:=by
    intro b hb k hk z
    have:∃ob,h₁.get? (ρ₁ k)=some ob:=by
     rcases hk with⟨q,e⟩|⟨q,e⟩
     ·refine E12 ((R₁.obj k q e).ex) λob e' _=>?_;exact I11 ob e'
     ·refine E12 ((R₁.fro k q e).ex) λob e' _=>?_;exact I11 ob e'
    refine E11 this λob e'=>?_;clear this
    rw[z]at e';exact nn (Heap.get?_none_of_le hb) e'
   refine hQ ρ₁ h₂ tk₁ _ _ NoB _ (N₁.trans R R₁ N₂ λ_ q=>q.elim) R₂ X₂ (Iter.enum (e:=h₁.objs.size+1) (it:=h₁.objs.size) S (Nat.ne_of_gt (Nat.lt_succ_self _)) (r1.tr N₂.tr)) ⟨_,he₂,hit₂⟩ ?_ ?_ (λ_ q=>q.elim)
   ·rintro b (rfl|rfl)
    ·exact fr _ (Nat.le_succ _)
    ·exact fr _ (Nat.le_refl _)
   ·rintro b (rfl|rfl)
    ·exact nh _ (Nat.le_succ _)
    ·exact nh _ (Nat.le_refl _)
 ·exact nos hr
inductive PsR (n:Nat) (ρ:Nat→Addr) (h:Heap):List (V×V)→List (Value×Value)→Prop
 |nil:PsR n ρ h [] []
 |cons {k v:V} {k' v':Value} {ps:List (V×V)} {vs:List (Value×Value)}:VR n ρ h k k'→VR n ρ h v v'→PsR n ρ h ps vs→PsR n ρ h ((k,v)::ps) ((k',v')::vs)
noncomputable def SemPs(c:Cfg prog w)(ec:Env→Prop)(nl:List Str)(d:Nat)(ks:List (Option Expr))(vs:List Expr)(f:Loc→M (List (V×V))):Prop:=
 ∀(pos:Pos) (A:Around) (env:Env) (l:Loc) (ρ:Nat→Addr) (st:St) (v:List (V×V)) (st':St) (s:Shared) (Q:List (Value×Value)→Shared→Prop) (E:Value→Shared→Prop),
  ec env→AOk d A→RelH c ρ st s.heap→LocR c env nl l ρ st s.heap→f l st=some (v,st')→
  (∀ρ' h' tk v',Nx c NoA ρ st s.heap ρ' st' h'→RelH c ρ' st' h'→LocR c env nl l ρ' st' h'→PsR st'.n ρ' h' v v'→Q v' {s with heap:=h',toks:=tk})→
  wpAny (model prog w) A (evalPairs (pairTrees ks vs env pos)) Q E s
theorem SemPs.nil:SemPs c ec nl d [] [] λ_=>pure []:=by
 intro pos A env l ρ st v st' s Q E he hA R X h0 hQ
 refine E02 (Prod.mk.inj (mpure h0)) λq9303 q9304=>?_;clear he hA h0;subst q9303;subst q9304
 exact wpAny_pure (hQ ρ s.heap s.toks _ .refl R X .nil)
theorem SemPs.cons{k v:Expr}{ks:List (Option Expr)}{vs:List Expr}{f g:Loc→M V}{fs:Loc→M (List (V×V))}(C:c.Ok)(h₁:SemE c ec nl d k f)(h₂:SemE c ec nl d v g)(h₃:SemPs c ec nl d ks vs fs):
 SemPs c ec nl d (some k::ks) (v::vs) (λl=>do let a ←f l;let b ←g l;let r ←fs l;pure ((a,b)::r)):=by
 intro pos A env l ρ st v' st' s Q E he hA R X h0 hQ
 refine bc λhno=>?_;refine E22 (mbind h0) λa st₁ hf hr=>?_
 clear h0
 refine E22 (mbind hr) λb st₂ hg hr2=>?_
 clear hr
 refine E22 (mbind hr2) λr st₃ hs hp=>?_
 refine E02 (Prod.mk.inj (mpure hp)) λq9373 q9374=>?_;clear hr2 hp;subst q9373;subst q9374
 refine hno ?_;refine pairTrees_cons_walk (h₁.two h₂ C he hA R X hf hg λρ₂ h₂' tk₂ a' b' N₂ R₂ X₂ ra rb=>?_)
 exact h₃ pos A env l ρ₂ st₂ r _ {s with heap:=h₂',toks:=tk₂} _ E he hA R₂ X₂ hs λρ₃ h₃' tk₃ r' N₃ R₃ X₃ rr=>
  hQ ρ₃ h₃' tk₃ _ (N₂.trans R R₂ N₃ λ_ q=>q.elim) R₃ X₃ (.cons (ra.tr N₃.tr) (rb.tr N₃.tr) rr)
noncomputable def strKeys:List (V×V)→Option (List (List Nat×V))
 | []=>some []
 |(.str x,v)::r=>match strKeys r with
  |some es=>match lkS x es with
   |none=>some ((x,v)::es)
   |some _=>none
  |none=>none
 |_=>none
noncomputable def intKeys:List (V×V)→Option (List (Int×V))
 | []=>some []
 |(.int x,v)::r=>match intKeys r with
  |some es=>match lkI x es with
   |none=>some ((x,v)::es)
   |some _=>none
  |none=>none
 |_=>none
theorem lkS_none{x:List Nat}{es:List (List Nat×V)}(h:lkS x es=none):x∉es.map (·.1):=by
 induction es with
 |nil=>exact List.not_mem_nil
 |cons p r ih=>
  have h':(match eqL p.1 x with|true=>some p.2|false=>lkS x r)=none:=h
  clear h
  cases q:eqL p.1 x with
  |true=>rw[q]at h';exact nso h'
  |false=>
   rw[q]at h'
   refine λhm=>(List.mem_cons.mp hm).elim (λe=>?_) (ih h')
   rw[e,(eqL_iff _ _).mpr rfl]at q;exact ntf q
theorem lkI_none{x:Int}{es:List (Int×V)}(h:lkI x es=none):x∉es.map (·.1):=by
 induction es with
 |nil=>exact List.not_mem_nil
 |cons p r ih=>
  have h':(match decide (p.1=x)with|true=>some p.2|false=>lkI x r)=none:=h
  clear h
  cases q:decide (p.1=x) with
  |true=>rw[q]at h';exact nso h'
  |false=>
   rw[q]at h'
   exact λhm=>(List.mem_cons.mp hm).elim (λe=>of_decide_eq_false q e.symm) (ih h')
theorem strKeys_cons{k v:V}{ps:List (V×V)}{es:List (List Nat×V)}(e:strKeys ((k,v)::ps)=some es):∃x r,k=.str x∧strKeys ps=some r∧lkS x r=none∧es=(x,v)::r:=by
 refine bc λhno=>?_
 cases k with
 |str x=>
  have e':(match strKeys ps with|some es=>(match lkS x es with|none=>some ((x,v)::es)|some _=>none)|none=>none)=some es:=e
  clear e;revert e'
  cases q1:strKeys ps with
  |none=>exact λe=>nos e
  |some r=>
   show(match lkS x r with|none=>some ((x,v)::r)|some _=>none)=some es→_
   cases q:lkS x r with
   |none=>exact λe=>hno ⟨x,r,rfl,q1,q,sni e⟩
   |some _=>exact λe=>nos e
 |_=>exact nos e
theorem strKeys_spec{n:Nat}{ρ:Nat→Addr}{h:Heap}{ps:List (V×V)}{es:List (List Nat×V)}{vs:List (Value×Value)}(e:strKeys ps=some es)(r:PsR n ρ h ps vs):
 allStrKeys vs=true∧KVR n ρ h es ((strPairs vs).map λp=>(p.1.cps.toList,p.2))∧((strPairs vs).map (·.1)).Nodup∧(strPairs vs).map (λp=>p.1.cps.toList)=es.map (·.1):=by
 induction r generalizing es with
 |nil=>obtain rfl:=sin e;exact I04 rfl .nil .nil rfl
 |cons rk rv _ ih=>
  refine E24 (strKeys_cons e) λx r q1 q2 q3 q4=>?_;clear e;subst q1;subst q4
  refine E22 rk.inv λy t q hy=>?_;clear rk;subst q
  refine E04 (ih q2) λa1 a2 a3 a4=>?_;clear ih q2
  refine I04 a1 ?_ (List.nodup_cons.mpr ⟨λhm=>?_,a3⟩) ?_
  ·show KVR n ρ h _ ((y.cps.toList,_)::_)
   rw[hy];exact .cons rv a2
  ·refine lkS_none q3 ?_
   rw[←a4,←hy]
   exact E12 (List.mem_map.mp hm) λp hp hpe=>List.mem_map.mpr ⟨p,hp,congrArg (λz=>z.cps.toList) hpe⟩
  ·show y.cps.toList::_=x::_
   rw[hy,a4]
theorem intKeys_cons{k v:V}{ps:List (V×V)}{es:List (Int×V)}(e:intKeys ((k,v)::ps)=some es):∃x r,k=.int x∧intKeys ps=some r∧lkI x r=none∧es=(x,v)::r:=by
 refine bc λhno=>?_
 cases k with
 |int x=>
  have e':(match intKeys ps with|some es=>(match lkI x es with|none=>some ((x,v)::es)|some _=>none)|none=>none)=some es:=e
  clear e;revert e'
  cases q1:intKeys ps with
  |none=>exact λe=>nos e
  |some r=>
   show(match lkI x r with|none=>some ((x,v)::r)|some _=>none)=some es→_
   cases q:lkI x r with
   |none=>exact λe=>hno ⟨x,r,rfl,q1,q,sni e⟩
   |some _=>exact λe=>nos e
 |_=>exact nos e
theorem intKeys_spec{n:Nat}{ρ:Nat→Addr}{h:Heap}{ps:List (V×V)}{es:List (Int×V)}{vs:List (Value×Value)}(e:intKeys ps=some es)(r:PsR n ρ h ps vs):
 allIntKeys vs=true∧KVR n ρ h es (intKeyPairs vs)∧((intKeyPairs vs).map (·.1)).Nodup:=by
 induction r generalizing es with
 |nil=>obtain rfl:=sin e;exact I03 rfl .nil .nil
 |cons rk rv _ ih=>
  refine E24 (intKeys_cons e) λx r q1 q2 q3 q4=>?_;clear e;subst q1;subst q4
  refine E11 rk.inv λt q=>?_;clear rk;subst q
  refine E03 (ih q2) λa1 a2 a3=>?_;clear ih q2
  refine I03 a1 (.cons rv a2) (List.nodup_cons.mpr ⟨λhm=>lkI_none q3 ?_,a3⟩)
  rw[←a2.keys];exact hm
noncomputable def dispS(f:Loc→M (List (V×V))):Loc→M V:=λl=>do
 let ps ←f l
 λst=>match strKeys ps with
  |some es=>some (.ref st.n,st.add (.sd es))
  |none=>none
noncomputable def dispI(f:Loc→M (List (V×V))):Loc→M V:=λl=>do
 let ps ←f l
 λst=>match intKeys ps with
  |some es=>some (.ref st.n,st.add (.idt es))
  |none=>none
theorem newAt(C:c.Ok){ρ:Nat→Addr}{st:St}{h h':Heap}(R:RelH c ρ st h)(k:∀b o,h.get? b=some o→h'.get? b=some o){a:Addr}(ha:h.get? a=none){o:AO}(hn:OAt prog w st.n ρ h' a o):
 Nx c NoA ρ st h (put ρ st.n a) (st.add o) h'∧RelH c (put ρ st.n a) (st.add o) h'∧VR (st.n+1) (put ρ st.n a) h' (.ref st.n) (.ref a):=by
 refine I03 (.alloc R k ha) (.alloc C R k ha hn) ?_
 have e:put ρ st.n a st.n=a:=if_pos rfl
 have q:=VR.ref (n:=st.n+1) (ρ:=put ρ st.n a) (h:=h') (k:=st.n) (Nat.lt_succ_self _)
 rwa [e]at q
theorem sys_ne(C:c.Ok){ρ:Nat→Addr}{st:St}{h:Heap}(R:RelH c ρ st h){a:Addr}(ha:h.get? a=none):(a==sysModules)=false:=by
 refine beq_false_of_ne λe=>?_
 refine E11 C.sys λo ho=>?_
 refine E11 (R.old.there _ _ ho) λo' ho'=>?_
 rw[←e]at ho';exact nn ha ho'
theorem disp_core{K:Type}[DecidableEq K]{knd:KeyKind prog w K}{ao:AO}{ks:List (Option Expr)}{vs:List Expr}{pos:Pos}{f:Loc→M (List (V×V))}(C:c.Ok)(hall:ks.all (·.isSome)=true)(hl:ks.length=vs.length)(h0':ks≠[])(hlen:ks.length≤15)(h:SemPs c ec nl d ks vs f)
 {A:Around} {env:Env} {l:Loc} {ρ:Nat→Addr} {st st₁:St} {ps:List (V×V)} {s:Shared} {Q:Value→Shared→Prop} {E:Value→Shared→Prop} (he:ec env) (hA:AOk d A) (R:RelH c ρ st s.heap) (X:LocR c env nl l ρ st s.heap) (hf:f l st=some (ps,st₁))
 (hdone:∀(n:Nat) (ρ:Nat→Addr) (h₁:Heap) (a:Addr) (vs:List (Value×Value)) (P:Heap→Prop),PsR n ρ h₁ ps vs→h₁.DictOf knd a []→(a==sysModules)=false→(∀h',Heap.SameBut a h₁ h'→(Tr n ρ h₁ n ρ h'→OAt prog w n ρ h' a ao)→(∃o',h'.get? a=some o')→P h')→
   ∃kvs,Carries knd vs kvs∧h₁.DictOf knd a []∧∀h',h'.DictOf knd a (merged [] kvs)→Heap.SameBut a h₁ h'→P h')
 (hQ:KE c env nl l ρ st s (.ref st₁.n) (st₁.add ao) Q):
 wpAny (model prog w) A (eval (.Dict ks vs pos) env) Q E s:=by
 refine wpAny_Dict_walk (knd:=knd) hall hl h0' hlen ?_
 have k:∀b o,s.heap.get? b=some o→(s.heap.push {cls:=.type "dict",data:=.dict #[]}).get? b=some o:=λb o e=>Heap.get?_push_of_some _ e
 have N₁:=Nx.keep (c:=c) (fp:=NoA) (ρ:=ρ) (st:=st) k
 have R₁:=R.keep C k
 have X₁:=X.nx C R R₁ N₁
 have hnew:(s.heap.push {cls:=.type "dict",data:=.dict #[]}).DictOf knd s.heap.objs.size []:=Heap.DictOf.new _
 refine h pos A env l ρ st ps st₁ {s with heap:=s.heap.push {cls:=.type "dict",data:=.dict #[]}} _ E he hA R₁ X₁ hf λρ₂ h₂ tk₂ vs' N₂ R₂ X₂ rs=>?_
 have hne0:∀k,Has k st.H∨Has k st.F→ρ k≠s.heap.objs.size:=by
  intro k hk z
  have:∃ob,s.heap.get? (ρ k)=some ob:=by
   rcases hk with⟨q,e⟩|⟨q,e⟩
   ·refine E12 ((R.obj k q e).ex) λob e' _=>?_;exact I11 ob e'
   ·refine E12 ((R.fro k q e).ex) λob e' _=>?_;exact I11 ob e'
  refine E11 this λob e'=>?_;clear this
  rw[z]at e';exact nn fresh_size e'
 have hH:c.H0.get? s.heap.objs.size=none:=R.fresh fresh_size
 refine E32 (id hnew) λo es ep ho hr=>?_
 have hD₂:h₂.DictOf knd s.heap.objs.size []:=⟨o,es,ep,N₂.un _ o ho (λk hk=>hne0 k (.inl hk)) (λq=>q) (RelH.ntb C hH),hr⟩
 have hne₂:=N₂.offF R₁ ho hne0
 have N₀₂:=N₁.trans R R₁ N₂ λ_ q=>q.elim
 refine hdone st₁.n ρ₂ h₂ s.heap.objs.size vs' _ rs hD₂ (sys_ne C R fresh_size) λh₃ hs₃ hO ho₃=>?_
 have hm:Mov h₂ s.heap.objs.size:=by
  refine E34 hD₂ λo es ep e hx hd _=>?_;clear hD₂
  exact I13 o e (.inl (by simp[hd])) (.inr (by simp[hd]))
 refine E05 (R₂.stat C hs₃ hH hm) λs1 s2 s3 s4 T=>?_
 have R₃:=R₂.aside C hs₃ hH hm hne₂
 have N₃:Nx c NoA ρ st s.heap ρ₂ st₁ h₃:=N₀₂.tail (fI:=λb=>b=s.heap.objs.size) (T _) (λb o hb e=>(hs₃.2 b hb).trans e) (by rintro b rfl;exact fresh_size)
 have R₄:=R₃.adopt (hO (T _)) hH hne₂
 have N₄:Nx c NoA ρ st s.heap (put ρ₂ st₁.n s.heap.objs.size) (st₁.add ao) h₃:=N₃.adopt R₃ fresh_size
 have e:put ρ₂ st₁.n s.heap.objs.size st₁.n=s.heap.objs.size:=if_pos rfl
 have q:=VR.ref (n:=st₁.n+1) (ρ:=put ρ₂ st₁.n s.heap.objs.size) (h:=h₃) (k:=st₁.n) (Nat.lt_succ_self _)
 rw[e]at q
 exact hQ _ h₃ _ _ N₄ R₄ (X.nx C R R₄ N₄) q
theorem SemE.dispS{ks:List (Option Expr)}{vs:List Expr}{pos:Pos}{f:Loc→M (List (V×V))}(C:c.Ok)(hall:ks.all (·.isSome)=true)(hl:ks.length=vs.length)(h0':ks≠[])(hlen:ks.length≤15)(h:SemPs c ec nl d ks vs f):SemE c ec nl d (.Dict ks vs pos) (Mine.dispS f):=by
 intro A env l ρ st v st' s Q E he hA R X h0 hQ
 refine bc λhno=>?_;refine E22 (mbind h0) λps st₁ hf hr=>?_
 have hr':(match strKeys ps with
  |some es=>some (V.ref st₁.n,st₁.add (.sd es))
  |none=>none)=some (v,st'):=hr
 cases q:strKeys ps with
 |none=>rw[q]at hr';exact nos hr'
 |some es=>
  rw[q]at hr';clear h0 hr;refine E02 (spi hr') λq9577 q9578=>?_;subst q9577;subst q9578
  refine hno ?_;refine disp_core (knd:=PySem.strKind prog w) C hall hl h0' hlen h he hA R X hf ?_ hQ
  intro n ρ h₁ a vs P rs hd hs hP
  refine E04 (strKeys_spec q rs) λa1 a2 a3 a4=>?_
  refine display_done_str a1 a3 hd λh' hd' hs'=>hP h' hs' (λT=>⟨hs,_,hd',a2.tr T⟩) ?_
  refine E32 hd' λo _ _ e _=>?_;clear hd';exact I11 o e
theorem SemE.dispI{ks:List (Option Expr)}{vs:List Expr}{pos:Pos}{f:Loc→M (List (V×V))}(C:c.Ok)(hall:ks.all (·.isSome)=true)(hl:ks.length=vs.length)(h0':ks≠[])(hlen:ks.length≤15)(h:SemPs c ec nl d ks vs f):SemE c ec nl d (.Dict ks vs pos) (Mine.dispI f):=by
 intro A env l ρ st v st' s Q E he hA R X h0 hQ
 refine bc λhno=>?_;refine E22 (mbind h0) λps st₁ hf hr=>?_
 have hr':(match intKeys ps with
  |some es=>some (V.ref st₁.n,st₁.add (.idt es))
  |none=>none)=some (v,st'):=hr
 cases q:intKeys ps with
 |none=>rw[q]at hr';exact nos hr'
 |some es=>
  rw[q]at hr';clear h0 hr;refine E02 (spi hr') λq9682 q9683=>?_;subst q9682;subst q9683
  refine hno ?_;refine disp_core (knd:=PySem.intKind prog w) C hall hl h0' hlen h he hA R X hf ?_ hQ
  intro n ρ h₁ a vs P rs hd hs hP
  refine E03 (intKeys_spec q rs) λa1 a2 a3=>?_
  refine display_done_int a1 a3 hd λh' hd' hs'=>hP h' hs' (λT=>⟨hs,_,hd',a2.tr T⟩) ?_
  refine E32 hd' λo _ _ e _=>?_;clear hd';exact I11 o e
noncomputable def emptyAO:Nat→AO
 |0=>.sd []
 |1=>.idt []
 |_=>.td []
noncomputable def newD(k:Nat):Loc→M V:=λ_ st=>some (.ref st.n,st.add (emptyAO k))
theorem SemE.disp0{pos:Pos}(k:Nat)(C:c.Ok):SemE c ec nl d (.Dict [] [] pos) (newD k):=by
 intro A env l ρ st v st' s Q E he hA R X h0 hQ
 refine E02 (Prod.mk.inj (Option.some.inj h0)) λq9787 q9788=>?_;clear he hA h0;subst q9787;subst q9788
 refine wpAny_Dict_empty ?_
 have k':∀b o,s.heap.get? b=some o→(s.heap.push {cls:=.type "dict",data:=.dict #[]}).get? b=some o:=λb o e=>Heap.get?_push_of_some _ e
 have hsys:=sys_ne C R (fresh_size (h:=s.heap))
 have hO:OAt prog w st.n ρ (s.heap.push {cls:=.type "dict",data:=.dict #[]}) s.heap.objs.size (emptyAO k):=by
  unfold emptyAO
  clear C R X hQ k';split
  ·exact⟨hsys,[],Heap.DictOf.new _,.nil⟩
  ·exact⟨hsys,[],Heap.DictOf.new _,.nil⟩
  ·exact⟨hsys,[],Heap.DictOfH.new _,.nil⟩
 refine E03 (newAt C R k' fresh_size hO) λN R' rv=>?_
 exact hQ _ _ s.toks _ N R' (X.nx C R R' N) rv
end
end
section
variable{prog:Program}{w:World}
section
variable{c:Cfg prog w}{ec:Env→Prop}{nl:List Str}{d:Nat}
noncomputable def argsLoc:Nat→List V→Loc
 |_,[]=>[]
 |i,v::r=>(i,v)::argsLoc (i+1) r
theorem argsLoc_inv:∀ {k:Nat} {vs:List V} {i:Nat} {v:V},lk i (argsLoc k vs)=some v→k≤i∧vs[i-k]? =some v
 |_,[],_,_,h=>by exact nos h
 |k,x::r,i,v,h=>by
  unfold argsLoc lk at h
  dsimp only at h
  rw[beq_eq]at h
  by_cases q:k=i
  ·rw[decide_eq_true q]at h;obtain rfl:=sin h;clear h;subst q;simp
  ·rw[decide_eq_false q]at h
   clear q;refine E02 (argsLoc_inv h) λa b=>?_
   refine⟨by lia,?_⟩
   have:i-k=(i-(k+1))+1:=by lia
   rw[this,List.getElem?_cons_succ];exact b
theorem zip_lookup:∀ {names:List Str} {vs:List Value} {i:Nat} {x:Str} {v:Value},names.Nodup→names[i]? =some x→vs[i]? =some v→(names.zip vs).lookup x=some v
 | [],_,_,_,_,_,h,_=>by simp at h
 |_::_,[],_,_,_,_,_,h=>by simp at h
 |n::names,w::vs,0,x,v,_,h,h'=>by
  simp at h h';subst h h'
  simp[List.zip_cons_cons,List.lookup_cons]
 |n::names,w::vs,i+1,x,v,nd,h,h'=>by
  simp at h h'
  rw[List.nodup_cons]at nd
  have hne:x≠n:=λe=>nd.1 (e▸List.mem_of_getElem? h)
  rw[List.zip_cons_cons,List.lookup_cons,beq_false_of_ne hne]
  exact zip_lookup nd.2 h h'
theorem lookup_append{α β:Type}[BEq α]{x:α}:∀ {l r:List (α×β)},(l++r).lookup x=match l.lookup x with|some v=>some v|none=>r.lookup x
 | [],r=>rfl
 |(a,b)::l,r=>by
  rw[List.cons_append,List.lookup_cons,List.lookup_cons]
  cases x==a with
  |true=>rfl
  |false=>exact lookup_append
theorem zip_rev_lookup:∀ {names:List Str} {vs:List Value} {i:Nat} {x:Str} {v:Value},names.Nodup→names[i]? =some x→vs[i]? =some v→(names.zip vs).reverse.lookup x=some v
 | [],_,_,_,_,_,h,_=>by simp at h
 |_::_,[],_,_,_,_,_,h=>by simp at h
 |n::names,w::vs,0,x,v,nd,h,h'=>by
  simp at h h';subst h h'
  rw[List.nodup_cons]at nd
  rw[List.zip_cons_cons,List.reverse_cons,lookup_append]
  have:(names.zip vs).reverse.lookup n=none:=by
   cases q:(names.zip vs).reverse.lookup n with
   |none=>rfl
   |some u=>
    have hm:=mem_of_lookup q
    rw[List.mem_reverse]at hm
    exact absurd (List.of_mem_zip hm).1 nd.1
  rw[this]
  simp[List.lookup_cons]
 |n::names,w::vs,i+1,x,v,nd,h,h'=>by
  simp at h h'
  rw[List.nodup_cons]at nd
  rw[List.zip_cons_cons,List.reverse_cons,lookup_append,zip_rev_lookup nd.2 h h']
noncomputable def flV:Fl→V
 |.ret v=>v
 |_=>.none
noncomputable def fnM(n:Nat)(ex:List V)(f:Loc→M (Loc×Fl)):List V→M V:=λargs=>match Nat.beq args.length n with
 |true=>do
  let r ←f (argsLoc 0 (args++ex))
  pure (flV r.2)
 |false=>fail
noncomputable def headB:List Str→List Str→Bool
 | [],_=>true
 |x::r,y::s=>(x==y)&&headB r s
 |_::_,[]=>false
theorem headB_iff:∀ {a b:List Str},headB a b=true→∀(i:Nat) (x:Str),a[i]? =some x→b[i]? =some x
 | [],_,_,i,x,h=>by simp at h
 |_::_,[],h,_,_,_=>by exact nft h
 |x::r,y::s,h,i,z,hz=>by
  unfold headB at h
  rw[Bool.and_eq_true]at h
  cases i with
  |zero=>simp at hz;subst hz;rw[eq_of_beq h.1];rfl
  |succ i=>simpa using headB_iff h.2 i z (by simpa using hz)
noncomputable def locB(names:List Str)(scope:Scope):Bool:=names.all λx=>scope.names.lookup x==some .local
noncomputable def noCell(scope:Scope):Bool:=scope.names.all λx=> !(x.2== .cell)
noncomputable def SemCode(c:Cfg prog w)(d:Nat)(fa:Addr)(g:List V→M V):Prop:=
 ∀(A:Around) (ρ:Nat→Addr) (st:St) (args:List V) (v:V) (st':St) (args':List Value) (s:Shared) (R:Result→Shared→Prop),
  AOk d A→RelH c ρ st s.heap→VRs st.n ρ s.heap args args'→g args st=some (v,st')→
  (∀ρ' h' tk v',Nx c NoA ρ st s.heap ρ' st' h'→RelH c ρ' st' h'→VR st'.n ρ' h' v v'→R (.ok (.ret v')) {s with heap:=h',toks:=tk})→
  codeAny (model prog w) A (.call (.ref fa) ⟨args',[]⟩) R s
theorem SemCall.of_code{fa:Addr}{g:List V→M V}(h:SemCode c d fa g):SemCall c d (.adr fa) g:=by
 intro A ρ st args v st' fv' args' s Q E hA R rf ra h0 hQ
 cases rf
 exact wpAny_call (h A ρ st args v st' args' s _ hA R ra h0 hQ)
theorem SemCode.less{fa:Addr}{g:List V→M V}{d':Nat}(h:SemCode c d fa g)(hd:d≤d'):SemCode c d' fa g:=by
 intro A ρ st args v st' args' s RR hA R ra h0 hQ
 exact h A ρ st args v st' args' s RR (hA.less hd) R ra h0 hQ
theorem SemCode.fnQ{fa:Addr}{name qual:Str}{params:Arguments}{body:List Stmt}{scope:Scope}{dV kV doc pm cdv ct oc:Value}{an od:Option Addr}{osl:Array (Option Value)}{names:List Str}{n:Nat}{exV:List V}{ex:List Value}{f:Loc→M (Loc×Fl)}(C:c.Ok)
 (ho:c.KS.lookup fa=some ⟨oc,od,.func (fnOf name qual params body scope dV kV doc pm an cdv ct),osl⟩) (hcd:codeIn c.KS cdv qual=true)
 (hbind:∀(s:Shared) (vals:List Value),c.KS.In s.heap→vals.length=n→BindsTo s (fnOf name qual params body scope dV kV doc pm an cdv ct) ⟨vals,[]⟩ (names.zip (vals++ex)))
 (hloc:locB names scope=true) (hcell:noCell scope=true) (hnl:headB names nl=true) (nd:nl.Nodup) (ndn:names.Nodup) (hex:∀n ρ h,VRs n ρ h exV ex) (hlen:names.length=n+ex.length)
 (hb:SemB c (λenv=>EC scope [] env∧env.code=cdv∧env.qual=qual++".<locals>.") nl d body f) (hco:scope.isCoroutine=false) (hgen:scope.isGenerator=false) (hk:scope.kind=.function):
 SemCode c (d+1) fa (fnM n exV f):=by
 intro A ρ st args v st' args' s RR hA R ra h0 hQ
 unfold fnM at h0
 refine bc λhno=>?_;cases hn:Nat.beq args.length n with
 |false=>rw[hn]at h0;exact nos h0
 |true=>
  rw[hn]at h0
  have hn:=Nat.eq_of_beq_eq_true hn
  refine E22 (mbind h0) λy9911 st₁ hf hr=>?_;obtain⟨l',fl⟩:=y9911
  refine E02 (Prod.mk.inj (mpure hr)) λq9918 q9919=>?_;subst q9918;subst q9919
  have hlen':args'.length=n:=by rw[ra.length,hn]
  have hloc':∀y∈names.zip (args'++ex),scope.names.lookup y.1=some .local:=by
   intro y hy
   have:=List.all_eq_true.mp hloc y.1 (List.of_mem_zip hy).1
   exact eq_of_beq this
  have hcell':∀x∈scope.names,x.2≠ .cell:=cell_of hcell
  refine hno ?_;refine codeAny_call_def (fd:=fnOf name qual params body scope dV kV doc pm an cdv ct) (body:=body) (binds:=names.zip (args'++ex)) ?_ (R.ks _ _ ho) rfl R.nol (codeRec_of R.ks hcd) rfl (hbind s args' R.ks hlen') hcell' hloc' (λh₀ hns hk₀=>?_) hco hgen hk
  ·have:=hA.2.1;first|exact Nat.lt_of_le_of_lt (Nat.le_add_right _ _) this|(show A.depth<recursionLimit;lia)|(show A.in1.depth<recursionLimit;exact Nat.lt_of_le_of_lt (Nat.le_add_right _ _) this)
  ·have N₀:=Nx.keep (c:=c) (fp:=NoA) (ρ:=ρ) (st:=st) hk₀
   have R₀:=R.keep C hk₀
   have hL:s.heap.get? s.heap.objs.size=none:=fresh_size
   have X₀:LocR c (callEnv (fnOf name qual params body scope dV kV doc pm an cdv ct) s.heap.objs.size fa) nl (argsLoc 0 (args++exV)) ρ st h₀:=by
    refine⟨nd,λi u hi=>?_,⟨_,hns⟩,λx a hx=>(by cases hx),R.fresh hL,λx a hx=>(by cases hx),?_,λk _ x a hx=>(by cases hx),λx a hx=>(by cases hx),λx y a hx=>(by cases hx)⟩
    ·refine E02 (argsLoc_inv hi) λ_ hu=>?_
     rw[Nat.sub_zero]at hu
     have rs:VRs st.n ρ h₀ (args++exV) (args'++ex):=(ra.tr N₀.tr).append (hex _ _ _)
     refine E12 (rs.get hu) λu' hu' ru=>?_
     have hlt:i<names.length:=by
      have h1:=(List.getElem?_eq_some_iff.mp hu').1
      rw[List.length_append,hlen']at h1
      lia
     have hx:names[i]? =some names[i]:=List.getElem?_eq_getElem hlt
     refine I23 names[i] u' (headB_iff hnl i _ hx) (.inl ⟨?_,_,hns,zip_rev_lookup ndn hx hu'⟩) ru
     show scope.names.lookup _= _
     exact eq_of_beq (List.all_eq_true.mp hloc _ (List.getElem_mem hlt))
    ·intro k hk z
     have:∃ob,s.heap.get? (ρ k)=some ob:=by
      rcases hk with⟨q,e⟩|⟨q,e⟩
      ·refine E12 ((R.obj k q e).ex) λob e' _=>?_;exact I11 ob e'
      ·refine E12 ((R.fro k q e).ex) λob e' _=>?_;exact I11 ob e'
     refine E11 this λob e'=>?_;clear this
     rw[show ρ k=s.heap.objs.size from z]at e';exact nn hL e'
   refine hb _ (callEnv (fnOf name qual params body scope dV kV doc pm an cdv ct) s.heap.objs.size fa) _ ρ st l' fl st' {s with heap:=h₀,toks:=_} _ _ ⟨⟨rfl,hk,rfl,rfl,λx hx=>(by cases hx)⟩,rfl,rfl⟩ hA.deeper R₀ X₀ hf λρ₁ h₁ tk₁ fl' N₁ R₁ X₁ r₁=>?_
   have N:Nx c NoA ρ st s.heap ρ₁ st' h₁:=N₀.trans R R₀ N₁ λb q=>by
    rcases q with q|⟨x,q⟩
    ·exact .inr (by rw[show b=s.heap.objs.size from q];exact hL)
    ·exact nos q
   refine hQ ρ₁ h₁ tk₁ _ N R₁ ?_
   clear C ho hcd hbind hloc hcell hnl nd ndn hex hlen hb hco hgen hk hA R ra hn h0 hQ hf hr hlen' hloc' hcell' hns hk₀ N₀ R₀ hL X₀ N₁ R₁ X₁ N;cases r₁ with
   |ret rv=>exact rv
   |_=>exact .none
theorem SemCode.fn{fa:Addr}{name qual:Str}{params:Arguments}{body:List Stmt}{scope:Scope}{dV kV doc pm cdv ct oc:Value}{an od:Option Addr}{osl:Array (Option Value)}{names:List Str}{n:Nat}{exV:List V}{ex:List Value}{f:Loc→M (Loc×Fl)}(C:c.Ok)
 (ho:c.KS.lookup fa=some ⟨oc,od,.func (fnOf name qual params body scope dV kV doc pm an cdv ct),osl⟩) (hcd:codeIn c.KS cdv qual=true)
 (hbind:∀(s:Shared) (vals:List Value),c.KS.In s.heap→vals.length=n→BindsTo s (fnOf name qual params body scope dV kV doc pm an cdv ct) ⟨vals,[]⟩ (names.zip (vals++ex)))
 (hloc:locB names scope=true) (hcell:noCell scope=true) (hnl:headB names nl=true) (nd:nl.Nodup) (ndn:names.Nodup) (hex:∀n ρ h,VRs n ρ h exV ex) (hlen:names.length=n+ex.length)
 (hb:SemB c (EC scope []) nl d body f) (hco:scope.isCoroutine=false) (hgen:scope.isGenerator=false) (hk:scope.kind=.function):
 SemCode c (d+1) fa (fnM n exV f):=
 SemCode.fnQ C ho hcd hbind hloc hcell hnl nd ndn hex hlen (λA env l ρ st l' fl st' s Q E he hA R X h0 hQ=>hb A env l ρ st l' fl st' s Q E he.1 hA R X h0 hQ) hco hgen hk
end
end
section
variable{prog:Program}{w:World}
section
variable{c:Cfg prog w}{ec:Env→Prop}{nl:List Str}{d:Nat}
theorem apart_inj{cs:List (Str×Addr)}(h:cs.Pairwise λx y=>x.2≠y.2){p q:Str×Addr}(hp:p∈cs)(hq:q∈cs)(e:p.2=q.2):p=q:=by
 induction cs with
 |nil=>cases hp
 |cons a r ih=>
  rw[List.pairwise_cons]at h
  rcases List.mem_cons.mp hp with h1|h1
  ·rcases List.mem_cons.mp hq with h2|h2
   ·rw[h1,h2]
   ·exact absurd (h1▸e) (h.1 q h2)
  ·rcases List.mem_cons.mp hq with h2|h2
   ·exact absurd (h2▸e).symm (h.1 p h1)
   ·exact ih h.2 h1 h2
theorem bindL_keep{kindOf:Str→Option NameKind}:∀ {names:List Str} {vs:List Value} {m:Str→Option Value} {x:Str},x∉names→bindL kindOf (names.zip vs) m x=m x
 | [],_,_,_,_=>rfl
 |_::_,[],_,_,_=>rfl
 |n::names,v::vs,m,x,h=>by
  simp only[List.mem_cons,not_or]at h
  rw[List.zip_cons_cons,bindL,bindL_keep h.2]
  by_cases k:kindOf n=some .local
  ·rw[if_pos k,if_neg h.1]
  ·rw[if_neg k]
theorem bindC_keep{kindOf:Str→Option NameKind}:∀ {names:List Str} {vs:List Value} {m:Str→Option Value} {x:Str},x∉names→bindC kindOf (names.zip vs) m x=m x
 | [],_,_,_,_=>rfl
 |_::_,[],_,_,_=>rfl
 |n::names,v::vs,m,x,h=>by
  simp only[List.mem_cons,not_or]at h
  rw[List.zip_cons_cons,bindC,bindC_keep h.2]
  by_cases k:kindOf n=some .local
  ·rw[if_pos k]
  ·rw[if_neg k,if_neg h.1]
theorem bindL_at{kindOf:Str→Option NameKind}:∀ {names:List Str} {vs:List Value} {m:Str→Option Value} {i:Nat} {x:Str} {v:Value},names.Nodup→names[i]? =some x→vs[i]? =some v→kindOf x=some .local→bindL kindOf (names.zip vs) m x=some v
 | [],_,_,_,_,_,_,h,_,_=>by simp at h
 |_::_,[],_,_,_,_,_,_,h,_=>by simp at h
 |n::names,w::vs,m,0,x,v,nd,h,h',hk=>by
  simp at h h';subst h h'
  rw[List.nodup_cons]at nd
  rw[List.zip_cons_cons,bindL,bindL_keep nd.1,if_pos hk,if_pos rfl]
 |n::names,w::vs,m,i+1,x,v,nd,h,h',hk=>by
  simp at h h'
  rw[List.nodup_cons]at nd
  rw[List.zip_cons_cons,bindL]
  exact bindL_at nd.2 h h' hk
theorem bindC_at{kindOf:Str→Option NameKind}:∀ {names:List Str} {vs:List Value} {m:Str→Option Value} {i:Nat} {x:Str} {v:Value},names.Nodup→names[i]? =some x→vs[i]? =some v→kindOf x≠some .local→bindC kindOf (names.zip vs) m x=some v
 | [],_,_,_,_,_,_,h,_,_=>by simp at h
 |_::_,[],_,_,_,_,_,_,h,_=>by simp at h
 |n::names,w::vs,m,0,x,v,nd,h,h',hk=>by
  simp at h h';subst h h'
  rw[List.nodup_cons]at nd
  rw[List.zip_cons_cons,bindC,bindC_keep nd.1,if_neg hk,if_pos rfl]
 |n::names,w::vs,m,i+1,x,v,nd,h,h',hk=>by
  simp at h h'
  rw[List.nodup_cons]at nd
  rw[List.zip_cons_cons,bindC]
  exact bindC_at nd.2 h h' hk
noncomputable def locC(names:List Str)(cn:List Str)(scope:Scope):Bool:=names.all λx=>(scope.names.lookup x==some .local)||((scope.names.lookup x==some .cell)&&cn.contains x)
theorem SemCode.fnC{fa:Addr}{name qual:Str}{params:Arguments}{body:List Stmt}{scope:Scope}{dV kV doc pm cdv ct oc:Value}{an od:Option Addr}{osl:Array (Option Value)}{names cn:List Str}{n:Nat}{f:Loc→M (Loc×Fl)}(C:c.Ok)
 (ho:c.KS.lookup fa=some ⟨oc,od,.func (fnOf name qual params body scope dV kV doc pm an cdv ct),osl⟩) (hcd:codeIn c.KS cdv qual=true)
 (hbind:∀(vals:List Value),vals.length=n→bindArgs (fnOf name qual params body scope dV kV doc pm an cdv ct) ⟨vals,[]⟩=pure (names.zip vals))
 (hloc:locC names cn scope=true) (hcl:∀k,(cn.all λx=>((cellsFrom k scope.names []).lookup x).isSome)=true) (hnl:headB names nl=true) (nd:nl.Nodup) (ndn:names.Nodup) (hlen:names.length=n)
 (hb:SemB c (EC scope cn) nl d body f) (hco:scope.isCoroutine=false) (hgen:scope.isGenerator=false) (hk:scope.kind=.function):
 SemCode c (d+1) fa (fnM n [] f):=by
 intro A ρ st args v st' args' s RR hA R ra h0 hQ
 unfold fnM at h0
 refine bc λhno=>?_;cases hn:Nat.beq args.length n with
 |false=>rw[hn]at h0;exact nos h0
 |true=>
  rw[hn]at h0
  have hn:=Nat.eq_of_beq_eq_true hn
  refine E22 (mbind h0) λy9603 st₁ hf hr=>?_;obtain⟨l',fl⟩:=y9603
  refine E02 (Prod.mk.inj (mpure hr)) λq9610 q9611=>?_;subst q9610;subst q9611
  have hlen':args'.length=n:=by rw[ra.length,hn]
  have kinds:∀x∈names,scope.names.lookup x=some .local∨(scope.names.lookup x=some .cell∧x∈cn):=by
   intro x hx
   have:=List.all_eq_true.mp hloc x hx
   rw[Bool.or_eq_true,Bool.and_eq_true]at this
   rcases this with q|q
   ·exact .inl (eq_of_beq q)
   ·exact .inr ⟨eq_of_beq q.1,by simpa using q.2⟩
  have hcl':∀k,∀x∈cn,((cellsFrom k scope.names []).lookup x).isSome=true:=λk x hx=>List.all_eq_true.mp (hcl k) x hx
  have hkind:∀y∈names.zip args',scope.names.lookup y.1=some .local∨(scope.names.lookup y.1=some .cell∧((cellsFrom (s.heap.objs.size+1) scope.names []).lookup y.1).isSome=true):=by
   intro y hy
   rcases kinds y.1 (List.of_mem_zip hy).1 with q|⟨q,q'⟩
   ·exact .inl q
   ·exact .inr ⟨q,hcl' _ _ q'⟩
  refine hno ?_;refine codeAny_call_cells (fd:=fnOf name qual params body scope dV kV doc pm an cdv ct) (body:=body) (binds:=names.zip args') ?_ (R.ks _ _ ho) rfl R.nol (codeRec_of R.ks hcd) rfl (hbind args' hlen') rfl hkind (λs₁ IC=>?_) hco hgen hk
  ·have:=hA.2.1;first|exact Nat.lt_of_le_of_lt (Nat.le_add_right _ _) this|(show A.depth<recursionLimit;lia)
  ·refine bc λhno=>?_;obtain⟨⟨⟨h₀,tk₀,rfl⟩,hns,hk₀,hfr⟩,hcel,hap,hab⟩:=IC
   dsimp only at hns hk₀ hcel
   have N₀:=Nx.keep (c:=c) (fp:=NoA) (ρ:=ρ) (st:=st) hk₀
   have R₀:=R.keep C hk₀
   have hL:s.heap.get? s.heap.objs.size=none:=fresh_size
   have hCf:∀x a,(callEnvC (fnOf name qual params body scope dV kV doc pm an cdv ct) s.heap.objs.size fa).cells.lookup x=some a→s.heap.get? a=none∧a≠s.heap.objs.size:=by
    intro x a hx
    have:s.heap.objs.size<a:=hab x a (mem_of_lookup hx)
    exact⟨Heap.get?_none_of_le (Nat.le_of_lt this),Nat.ne_of_gt this⟩
   have hex:∀k,Has k st.H∨Has k st.F→∃ob,s.heap.get? (ρ k)=some ob:=by
    intro k hk
    rcases hk with⟨q,e⟩|⟨q,e⟩
    ·refine E12 ((R.obj k q e).ex) λob e' _=>?_;exact I11 ob e'
    ·refine E12 ((R.fro k q e).ex) λob e' _=>?_;exact I11 ob e'
   have hEC:EC scope cn (callEnvC (fnOf name qual params body scope dV kV doc pm an cdv ct) s.heap.objs.size fa):=by
    refine I05 rfl hk rfl rfl (λx hx=>?_)
    have:=hcl' (s.heap.objs.size+1) x hx
    exact Option.isSome_iff_exists.mp this
   have X₀:LocR c (callEnvC (fnOf name qual params body scope dV kV doc pm an cdv ct) s.heap.objs.size fa) nl (argsLoc 0 (args++[])) ρ st h₀:=by
    refine⟨nd,λi u hi=>?_,⟨_,hns⟩,λx a hx=>⟨_,hcel x a hx⟩,R.fresh hL,λx a hx=>R.fresh (hCf x a hx).1,λk hk z=>?_,λk hk x a hx z=>?_,λx a hx=>(hCf x a hx).2,λx y a hx hy=>?_⟩
    ·refine E02 (argsLoc_inv hi) λ_ hu=>?_
     rw[Nat.sub_zero,List.append_nil]at hu
     have rs:VRs st.n ρ h₀ args args':=ra.tr N₀.tr
     refine E12 (rs.get hu) λu' hu' ru=>?_
     have hlt:i<names.length:=by
      have h1:=(List.getElem?_eq_some_iff.mp hu').1
      lia
     have hx:names[i]? =some names[i]:=List.getElem?_eq_getElem hlt
     refine I23 names[i] u' (headB_iff hnl i _ hx) ?_ ru
     rcases kinds _ (List.getElem_mem hlt)with q|⟨q,q'⟩
     ·exact .inl ⟨q,_,hns,bindL_at ndn hx hu' q⟩
     ·refine E11 (hEC.2.2.2.2 _ q') λa ha=>?_
      refine .inr ⟨.inl q,a,ha,?_⟩
      have:=hcel _ a ha
      rw[bindC_at ndn hx hu' (by show scope.names.lookup _≠_;rw[q];simp)]at this
      exact this
    ·refine E11 (hex k hk) λob e'=>?_
     rw[show ρ k=s.heap.objs.size from z]at e';exact nn hL e'
    ·refine E11 (hex k hk) λob e'=>?_
     rw[z]at e';exact nn ((hCf x a hx).1) e'
    ·have:=apart_inj hap (mem_of_lookup hx) (mem_of_lookup hy) rfl
     exact congrArg Prod.fst this
   refine hno ?_;refine hb _ (callEnvC (fnOf name qual params body scope dV kV doc pm an cdv ct) s.heap.objs.size fa) _ ρ st l' fl st' {s with heap:=h₀,toks:=tk₀} _ _ hEC hA.deeper R₀ X₀ hf λρ₁ h₁ tk₁ fl' N₁ R₁ X₁ r₁=>?_
   have N:Nx c NoA ρ st s.heap ρ₁ st' h₁:=N₀.trans R R₀ N₁ λb q=>by
    rcases q with q|⟨x,q⟩
    ·exact .inr (by rw[show b=s.heap.objs.size from q];exact hL)
    ·exact .inr (hCf x b q).1
   refine hQ ρ₁ h₁ tk₁ _ N R₁ ?_
   clear C ho hcd hbind hloc hcl hnl nd ndn hlen hb hco hgen hk hA R ra hn h0 hQ hf hr hlen' kinds hcl' hkind hap hab hfr hcel hns hk₀ N₀ R₀ hL hCf hex hEC X₀ N₁ R₁ X₁ N;cases r₁ with
   |ret rv=>exact rv
   |_=>exact .none
end
end
section
variable{prog:Program}{w:World}
section
variable{c:Cfg prog w}{ec:Env→Prop}{nl:List Str}{d:Nat}
theorem AOk.under_tc{A:Around}(hA:AOk (d+1) A)(C0:Addr)(rest:List Value):AOk d (A.under (.builtin "type.__call__" ⟨.ref C0::rest,[]⟩)):=by
 refine I03 hA.1 ?_ ?_
 ·have:=hA.2.1
  show A.depth+1+d<_;lia
 ·have:=hA.2.2
  have e:(A.under (.builtin "type.__call__" ⟨.ref C0::rest,[]⟩)).units≤A.units+4:=by
   show A.units+Code.cUnits (.builtin "type.__call__" ⟨.ref C0::rest,[]⟩)≤_
   have:Code.cUnits (.builtin "type.__call__" ⟨.ref C0::rest,[]⟩)≤4:=by
    show 1+3 * Code.frames (.builtin "type.__call__" ⟨.ref C0::rest,[]⟩)≤4
    have:Code.frames (.builtin "type.__call__" ⟨.ref C0::rest,[]⟩)≤1:=by
     first|exact Nat.zero_le _|exact Nat.le_refl _
    lia
   lia
  lia
noncomputable def mkI(C0:Addr)(g:List V→M V):List V→M V:=λargs=>do
 let st ←get
 set ((st.add (.ns [])).add (.inst C0 st.n))
 let r ←g (.ref (st.n+1)::args)
 match r with
 |.none=>pure (.ref (st.n+1))
 |_=>fail
theorem mkI_inv{C0:Addr}{g:List V→M V}{args:List V}{st:St}{r:V×St}(e:mkI C0 g args st=some r):∃st',g (.ref (st.n+1)::args) ((st.add (.ns [])).add (.inst C0 st.n))=some (.none,st')∧r=(.ref (st.n+1),st'):=by
 have e':(g (.ref (st.n+1)::args) >>= λr=>match r with
  |.none=>pure (.ref (st.n+1))
  |_=>fail) ((st.add (.ns [])).add (.inst C0 st.n))=some r:=e
 refine E22 (mbind e') λv st' h1 h2=>?_
 cases v <;> first|(cases h2;done)|skip
 exact I12 st' h1 (mpure h2)
theorem SemCall.make{C0 fI:Addr}{g:List V→M V}(C:c.Ok)(hm:makesIn c.KS C0=true)(hi:findIn c.KS (.ref C0) "__init__"=some (some (.ref fI)))(hf:typeIn c.KS (.ref fI)=some (.type "function"))(hg:SemCode c d fI g):
 SemCall c (d+1) (.adr C0) (mkI C0 g):=by
 intro A ρ st args v st' fv' args' s Q E hA R rf ra h0 hQ
 refine bc λhno=>?_;cases rf
 refine E12 (mkI_inv h0) λst₁ h1 e=>?_
 refine E02 (Prod.mk.inj e) λq9358 q9359=>?_;subst q9358;subst q9359
 clear h0 e
 refine hno ?_;refine wpAny_call ?_
 obtain⟨hh,gg,dd,tt,os⟩:=s
 dsimp only at *
 refine make_core (makes_of R.ks hm) (looks_findIn R.ks hi) (λself=>bind_fn R.ks self hf) (.inl rfl) ?_
 have k1:∀b o,hh.get? b=some o→(hh.push emptyDict).get? b=some o:=λb o e=>Heap.get?_push_of_some _ e
 have O1:OAt prog w st.n ρ (hh.push emptyDict) hh.objs.size (.ns []):=⟨[],0,Heap.get?_push_size _ rfl,.nil⟩
 refine bc λhno=>?_;refine E03 (newAt C R k1 fresh_size O1) λN1 R1 rv1=>?_
 have hz:(hh.push emptyDict).objs.size=hh.objs.size+1:=Heap.size_push ..
 have k2:∀b o,(hh.push emptyDict).get? b=some o→((hh.push emptyDict).push (instObj C0 hh.objs.size)).get? b=some o:=λb o e=>Heap.get?_push_of_some _ e
 have e1:put ρ st.n hh.objs.size st.n=hh.objs.size:=if_pos rfl
 have O2:OAt prog w (st.add (.ns [])).n (put ρ st.n hh.objs.size) ((hh.push emptyDict).push (instObj C0 hh.objs.size)) (hh.push emptyDict).objs.size (.inst C0 st.n):=by
  refine⟨?_,Nat.lt_succ_self _⟩
  rw[e1]
  exact Heap.get?_push_size _ rfl
 refine E03 (newAt C R1 k2 fresh_size O2) λN2 R2 rv2=>?_
 rw[hz]at N2 R2 rv2
 have N12:=N1.trans R R1 N2 λ_ q=>q.elim
 have ra2:=ra.tr N12.tr
 refine hno ?_;refine hg _ _ _ (.ref (st.n+1)::args) .none st' (.ref (hh.objs.size+1)::args') ⟨(hh.push emptyDict).push (instObj C0 hh.objs.size),gg,dd,tt,os⟩ _ (hA.under_tc _ _) R2 (.cons rv2 ra2) h1 λρ₃ h₃ tk₃ v₃ N₃ R₃ r₃=>?_
 refine bc λhno=>?_;cases r₃
 refine hno ?_;exact⟨rfl,hQ ρ₃ h₃ tk₃ _ (N12.trans R R2 N₃ λ_ q=>q.elim) R₃ (rv2.tr N₃.tr)⟩
theorem Keep.cls{C0:Addr}(e:keepIn c.KS (.ref C0)=true):Keep c (.adr C0):=Keep.adr e
end
end
section
variable{prog:Program}{w:World}
mutual
noncomputable def V.clo(B:Nat):V→Bool
 |.tup vs=>V.clos B vs
 |.ref k=>Nat.blt k B
 |_=>true
noncomputable def V.clos(B:Nat):List V→Bool
 | []=>true
 |v::r=>match V.clo B v with
  |true=>V.clos B r
  |false=>false
end
theorem clos_cons{B:Nat}{v:V}{r:List V}(h:V.clos B (v::r)=true):V.clo B v=true∧V.clos B r=true:=by
 have h':(match V.clo B v with|true=>V.clos B r|false=>false)=true:=h
 clear h
 cases q:V.clo B v with
 |true=>rw[q]at h';exact⟨rfl,h'⟩
 |false=>rw[q]at h';exact nft h'
theorem VR.re{B n n0:Nat}{ρ ρ0:Nat→Addr}{h:Heap}(hn:B≤n0)(hρ:∀k,k<B→ρ0 k=ρ k){v:V}{v':Value}(r:VR n ρ h v v'):V.clo B v=true→VR n0 ρ0 h v v':=
 VR.rec (motive_1:=λv v' _=>V.clo B v=true→VR n0 ρ0 h v v') (motive_2:=λvs vs' _=>V.clos B vs=true→VRs n0 ρ0 h vs vs') (λ_=>.none) (λb _=>.bool b) (λi t _=>.int i t) (λx t e _=>.str x t e) (λht _ i hb=>.tup ht (i hb))
   (λ{k} _ hb=>hρ k (Nat.le_of_ble_eq_true hb)▸ .ref (Nat.lt_of_lt_of_le (Nat.le_of_ble_eq_true hb) hn)) (λa _=>.adr a) (λx _=>.bi x) (λx _=>.ty x) (λ_=>.nil) (λ_ _ a b hb=>.cons (a (clos_cons hb).1) (b (clos_cons hb).2)) r
theorem VRs.re{B n n0:Nat}{ρ ρ0:Nat→Addr}{h:Heap}(hn:B≤n0)(hρ:∀k,k<B→ρ0 k=ρ k){vs:List V}{vs':List Value}(r:VRs n ρ h vs vs'):V.clos B vs=true→VRs n0 ρ0 h vs vs':=
 VRs.ind (P:=λvs vs'=>V.clos B vs=true→VRs n0 ρ0 h vs vs') (λ_=>.nil) (λa _ b hb=>.cons (a.re hn hρ (clos_cons hb).1) (b (clos_cons hb).2)) r
noncomputable def belowE{K:Type}(B:Nat):List (K×V)→Bool
 | []=>true
 |p::r=>match V.clo B p.2 with
  |true=>belowE B r
  |false=>false
noncomputable def belowO(B:Nat):AO→Bool
 |.list xs=>V.clos B xs
 |.inst _ d=>Nat.blt d B
 |.ns es=>belowE B es
 |.sd es=>belowE B es
 |.idt es=>belowE B es
 |.td es=>belowE B es
theorem belowE_cons{K:Type}{B:Nat}{p:K×V}{r:List (K×V)}(h:belowE B (p::r)=true):V.clo B p.2=true∧belowE B r=true:=by
 have h':(match V.clo B p.2 with|true=>belowE B r|false=>false)=true:=h
 clear h
 cases q:V.clo B p.2 with
 |true=>rw[q]at h';exact⟨rfl,h'⟩
 |false=>rw[q]at h';exact nft h'
theorem KVR.re{K:Type}{B n n0:Nat}{ρ ρ0:Nat→Addr}{h:Heap}(hn:B≤n0)(hρ:∀k,k<B→ρ0 k=ρ k){es:List (K×V)}{r:List (K×Value)}(x:KVR n ρ h es r)(hb:belowE B es=true):KVR n0 ρ0 h es r:=by
 induction x with
 |nil=>exact .nil
 |cons v _ ih=>exact .cons (v.re hn hρ (belowE_cons hb).1) (ih (belowE_cons hb).2)
theorem NsR.re{B n n0:Nat}{ρ ρ0:Nat→Addr}{h:Heap}(hn:B≤n0)(hρ:∀k,k<B→ρ0 k=ρ k){es:List (List Nat×V)}{r:List DictEntry}(x:NsR n ρ h es r)(hb:belowE B es=true):NsR n0 ρ0 h es r:=by
 induction x with
 |nil=>exact .nil
 |cons y t q e v _ ih=>exact .cons y t q e (v.re hn hρ (belowE_cons hb).1) (ih (belowE_cons hb).2)
theorem OAt.re{B n n0:Nat}{ρ ρ0:Nat→Addr}{h:Heap}(hn:B≤n0)(hρ:∀k,k<B→ρ0 k=ρ k){a:Addr}{o:AO}(x:OAt prog w n ρ h a o)(hb:belowO B o=true):OAt prog w n0 ρ0 h a o:=by
 cases o with
 |list xs=>refine E22 x λits m e r=>?_;clear x;exact I22 its m e (r.re hn hρ hb)
 |inst C d=>
  refine E02 x λe hd=>?_;clear x
  have:d<B:=Nat.le_of_ble_eq_true hb
  exact⟨by rw[hρ d this];exact e,Nat.lt_of_lt_of_le this hn⟩
 |ns es=>refine E22 x λits m e r=>?_;clear x;exact I22 its m e (r.re hn hρ hb)
 |sd es=>refine E02 x λhs y9589=>?_;clear x;refine E12 y9589 λkvs e r=>?_;clear y9589;exact⟨hs,kvs,e,r.re hn hρ hb⟩
 |idt es=>refine E02 x λhs y9596=>?_;clear x;refine E12 y9596 λkvs e r=>?_;clear y9596;exact⟨hs,kvs,e,r.re hn hρ hb⟩
 |td es=>refine E02 x λhs y9603=>?_;clear x;refine E12 y9603 λkvs e r=>?_;clear y9603;exact⟨hs,kvs,e,r.re hn hρ hb⟩
noncomputable def canon(B:Nat)(st:St):Nat→List V→Option (List V×List (Nat×AO))
 |_,[]=>some ([],[])
 |i,v::r=>match canon B st (i+1) r with
  |none=>none
  |some (vs,ex)=>match V.clo B v with
   |true=>some (v::vs,ex)
   |false=>match v with
    |.ref k=>match rdO k st with
     |some (.list xs)=>match V.clos B xs with
      |true=>some (.ref (B+i)::vs,(B+i,.list xs)::ex)
      |false=>none
     |_=>none
    |_=>none
noncomputable def expo(B:Nat)(st:St)(v:V)(st1:St):Option (V×St):=match V.clo B v with
 |true=>some (v,st)
 |false=>match v with
  |.ref k=>match lk k st1.H with
   |some (.list xs)=>match V.clos B xs with
    |true=>some (.ref st.n,st.add (.list xs))
    |false=>none
   |_=>none
  |_=>none
noncomputable def pureM(RD:List (Nat×AO))(B:Nat)(g:List V→M V):List V→M V:=λargs st=>match canon B st 0 args with
 |none=>none
 |some (vs,ex)=>match g vs ⟨[],ex++RD,B+args.length⟩ with
  |none=>none
  |some (v,st1)=>expo B st v st1
section
variable{c:Cfg prog w}{d:Nat}
noncomputable def RDok(c:Cfg prog w):Prop:=∀p∈c.RD,p.1<c.B∧belowO c.B p.2=true
theorem lk_append{α:Type}{k:Nat}{l r:List (Nat×α)}:lk k (l++r)=match lk k l with|some x=>some x|none=>lk k r:=by
 induction l with
 |nil=>rfl
 |cons p l ih=>
  show(match Nat.beq p.1 k with|true=>some p.2|false=>lk k (l++r))=match (match Nat.beq p.1 k with|true=>some p.2|false=>lk k l)with|some x=>some x|none=>lk k r
  cases Nat.beq p.1 k with
  |true=>rfl
  |false=>exact ih
theorem lk_none_of{α:Type}{k:Nat}{l:List (Nat×α)}(h:∀p∈l,p.1≠k):lk k l=none:=by
 cases q:lk k l with
 |none=>rfl
 |some x=>exact absurd rfl (h _ (lk_mem q))
noncomputable def rhoC(B:Nat)(ρ:Nat→Addr)(A0:List V):Nat→Addr:=λj=>if j<B then ρ j else match A0[j-B]? with
 |some (.ref k)=>ρ k
 |_=>ρ j
theorem rhoC_low{B:Nat}{ρ:Nat→Addr}{A0:List V}{j:Nat}(h:j<B):rhoC B ρ A0 j=ρ j:=if_pos h
theorem rhoC_at{B:Nat}{ρ:Nat→Addr}{A0:List V}{i k:Nat}(h:A0[i]? =some (.ref k)):rhoC B ρ A0 (B+i)=ρ k:=by
 unfold rhoC
 rw[if_neg (by lia),show B+i-B=i by lia,h]
theorem rdO_off{ρ:Nat→Addr}{st:St}{h:Heap}(C:c.Ok)(R:RelH c ρ st h){k:Nat}{o:AO}(e:rdO k st=some o):¬c.TB (ρ k):=by
 unfold rdO at e
 cases q:lk k st.H with
 |some o'=>
  intro z
  refine E11 (C.tb _ z) λob ho=>?_
  exact nn (R.low k ⟨_,q⟩) ho
 |none=>rw[q]at e;exact R.ntbF k ⟨_,e⟩
noncomputable def canR(B:Nat)(st:St)(i:Nat)(vs:List V)(ex:List (Nat×AO)):V→Option (List V×List (Nat×AO))
 |.ref k=>match rdO k st with
  |some (.list xs)=>match V.clos B xs with
   |true=>some (.ref (B+i)::vs,(B+i,.list xs)::ex)
   |false=>none
  |_=>none
 |_=>none
theorem canR_inv{B:Nat}{st:St}{i:Nat}{v:V}{ws:List V}{ey:List (Nat×AO)}{r:List V×List (Nat×AO)}(e:canR B st i ws ey v=some r):∃k xs,v=.ref k∧rdO k st=some (.list xs)∧V.clos B xs=true∧r=(.ref (B+i)::ws,(B+i,.list xs)::ey):=by
 refine bc λhno=>?_
 cases v with
 |ref k=>
  have e':(match rdO k st with
   |some (.list xs)=>match V.clos B xs with
    |true=>some (V.ref (B+i)::ws,(B+i,AO.list xs)::ey)
    |false=>none
   |_=>none)=some r:=e
  clear e
  cases q2:rdO k st with
  |none=>rw[q2]at e';exact nos e'
  |some o=>
   rw[q2]at e'
   cases o with
   |list xs=>
    dsimp only at e'
    cases q3:V.clos B xs with
    |true=>rw[q3]at e';exact hno ⟨k,xs,rfl,q2,q3,sni e'⟩
    |false=>rw[q3]at e';exact nos e'
   |_=>exact nos e'
 |_=>exact nos e
theorem canon_cons{B:Nat}{st:St}{i:Nat}{v:V}{r vs:List V}{ex:List (Nat×AO)}(e:canon B st i (v::r)=some (vs,ex)):∃ws ey,canon B st (i+1) r=some (ws,ey)∧
 ((V.clo B v=true∧vs=v::ws∧ex=ey)∨∃k xs,v=.ref k∧rdO k st=some (.list xs)∧V.clos B xs=true∧vs=.ref (B+i)::ws∧ex=(B+i,.list xs)::ey):=by
 have e':(match canon B st (i+1) r with|none=>none|some (vs,ex)=>(match V.clo B v with|true=>some (v::vs,ex)|false=>canR B st i vs ex v))=some (vs,ex):=e
 refine bc λhno=>?_
 clear e
 cases q:canon B st (i+1) r with
 |none=>rw[q]at e';exact nos e'
 |some p=>
  rw[q]at e';dsimp only at e'
  cases q1:V.clo B v with
  |true=>rw[q1]at e';exact hno ⟨p.1,p.2,q,.inl ⟨q1,spj e'⟩⟩
  |false=>rw[q1]at e';exact E24 (canR_inv e') λk xs e1 e2 e3 e4=>hno ⟨p.1,p.2,q,.inr ⟨k,xs,e1,e2,e3,Prod.mk.inj e4⟩⟩
theorem canon_spec(C:c.Ok){ρ:Nat→Addr}{st:St}{h:Heap}{A0:List V}(R:RelH c ρ st h){args:List V}{args':List Value}{i:Nat}{vs:List V}{ex:List (Nat×AO)}(e:canon c.B st i args=some (vs,ex))(r:VRs st.n ρ h args args')(hA:∀j,args[j]? =A0[i+j]?):
 (∀p∈ex,c.B+i≤p.1∧p.1<c.B+i+args.length)∧(∀k o,lk k ex=some o→(∀n0,c.B≤n0→OAt prog w n0 (rhoC c.B ρ A0) h (rhoC c.B ρ A0 k) o)∧¬c.TB (rhoC c.B ρ A0 k))∧
 (∀n0,c.B+i+args.length≤n0→VRs n0 (rhoC c.B ρ A0) h vs args')∧vs.length=args.length:=by
 induction args generalizing args' i vs ex with
 |nil=>
  refine E02 (spj e) λe1 e2=>?_
  subst e1;subst e2
  rw[r.inv0]
  exact⟨λp hp=>absurd hp List.not_mem_nil,λk o e=>nos e,λ_ _=>.nil,rfl⟩
 |cons v r1 ih=>
  refine E23 r.inv1 λx ys q rv rs=>?_
  subst q;clear r
  refine E22 (canon_cons e) λws ey q hor=>?_;clear e
  refine E04 (ih q rs λj=>?_) λh1 h2 h3 h4=>?_
  ·rw[←List.getElem?_cons_succ (a:=v),hA,Nat.add_right_comm];rfl
  clear ih rs q
  have ea:c.B+(i+1)+r1.length=c.B+i+(r1.length+1):=Nat.add_right_comm (c.B+i) 1 r1.length
  have l1:∀p∈ey,c.B+i≤p.1∧p.1<c.B+i+(r1.length+1):=λp hp=>(h1 p hp).imp (λh=>Nat.le_of_succ_le h) λh=>Nat.lt_of_lt_of_eq h ea
  have l3:∀n0,c.B+i+(r1.length+1)≤n0→c.B+(i+1)+r1.length≤n0:=λn0 h=>Nat.le_trans (Nat.le_of_eq ea) h
  have l4:∀n0,c.B+i+(r1.length+1)≤n0→c.B≤n0:=λn0 h=>Nat.le_trans (Nat.le_trans (Nat.le_add_right _ _) (Nat.le_add_right _ _)) h
  rcases hor with⟨qb,e1,e2⟩|⟨k,xs,e0,q2,q3,e1,e2⟩
  ·subst e1;subst e2
   exact I04 l1 h2 (λn0 hn=>.cons (rv.re (l4 n0 hn) (λj hj=>rhoC_low hj) qb) (h3 n0 (l3 n0 hn))) (congrArg (· +1) h4)
  ·subst e0;subst e1;subst e2
   have heq:rhoC c.B ρ A0 (c.B+i)=ρ k:=rhoC_at (hA 0).symm
   refine I04 (λp hp=>?_) (λj o hj=>?_) (λn0 hn=>?_) (congrArg (· +1) h4)
   ·rcases List.mem_cons.mp hp with e|hp
    ·rw[e];exact⟨Nat.le_refl _,Nat.lt_add_of_pos_right (Nat.succ_pos _)⟩
    ·exact l1 p hp
   ·have hj':(match Nat.beq (c.B+i) j with|true=>some (AO.list xs)|false=>lk j ey)=some o:=hj
    clear hj
    cases z:Nat.beq (c.B+i) j with
    |true=>
     rw[z]at hj'
     rw[←Nat.eq_of_beq_eq_true z,heq,←sin hj']
     exact⟨λn0 hn=>(R.rdO q2).re hn (λj hj=>rhoC_low hj) q3,rdO_off C R q2⟩
    |false=>rw[z]at hj';exact h2 j o hj'
   ·refine .cons ?_ (h3 n0 (l3 n0 hn))
    have q:=rv.inv.1
    rw[q,←heq]
    exact .ref (Nat.lt_of_lt_of_le (Nat.lt_add_of_pos_right (Nat.succ_pos _)) hn)
noncomputable def expR(B:Nat)(st st1:St):V→Option (V×St)
 |.ref k=>match lk k st1.H with
  |some (.list xs)=>match V.clos B xs with
   |true=>some (.ref st.n,st.add (.list xs))
   |false=>none
  |_=>none
 |_=>none
theorem expo_inv{B:Nat}{st:St}{v:V}{st1:St}{r:V×St}(e:expo B st v st1=some r):(V.clo B v=true∧r=(v,st))∨∃k xs,v=.ref k∧lk k st1.H=some (.list xs)∧V.clos B xs=true∧r=(.ref st.n,st.add (.list xs)):=by
 have e':(match V.clo B v with|true=>some (v,st)|false=>expR B st st1 v)=some r:=e
 refine bc λhno=>?_
 clear e
 cases q:V.clo B v with
 |true=>rw[q]at e';exact hno (.inl ⟨q,sni e'⟩)
 |false=>
  rw[q]at e';clear q
  cases v with
  |ref k=>
   have e:(match lk k st1.H with
    |some (.list xs)=>match V.clos B xs with
     |true=>some (V.ref st.n,st.add (.list xs))
     |false=>none
    |_=>none)=some r:=e'
   clear e'
   cases q2:lk k st1.H with
   |none=>rw[q2]at e;exact nos e
   |some o=>
    rw[q2]at e
    cases o with
    |list xs=>
     dsimp only at e
     cases q3:V.clos B xs with
     |true=>rw[q3]at e;exact hno (.inr ⟨k,xs,rfl,q2,q3,sni e⟩)
     |false=>rw[q3]at e;exact nos e
    |_=>exact nos e
  |_=>exact nos e'
theorem pureM_inv{RD:List (Nat×AO)}{B:Nat}{g:List V→M V}{args:List V}{st:St}{r:V×St}(e:pureM RD B g args st=some r):∃vs ex v1 st1,canon B st 0 args=some (vs,ex)∧g vs ⟨[],ex++RD,B+args.length⟩=some (v1,st1)∧expo B st v1 st1=some r:=by
 unfold pureM at e
 cases q:canon B st 0 args with
 |none=>rw[q]at e;exact nos e
 |some p=>
  rw[q]at e;dsimp only at e
  cases q1:g p.1 ⟨[],p.2++RD,B+args.length⟩ with
  |none=>rw[q1]at e;exact nos e
  |some z=>rw[q1]at e;exact⟨p.1,p.2,z.1,z.2,rfl,q1,e⟩
theorem RelH.pureAt(C:c.Ok)(D:RDok c){ρ:Nat→Addr}{st:St}{h:Heap}{args vs:List V}{args':List Value}{ex:List (Nat×AO)}(R:RelH c ρ st h)(q:canon c.B st 0 args=some (vs,ex))(ra:VRs st.n ρ h args args'):
 RelH c (rhoC c.B ρ args) ⟨[],ex++c.RD,c.B+args.length⟩ h∧VRs (c.B+args.length) (rhoC c.B ρ args) h vs args':=by
 refine E04 (canon_spec (A0:=args) C R q ra λj=>by rw[Nat.zero_add]) λh1 h2 h3 _=>?_
 clear q ra
 have hRD:∀k o,lk k c.RD=some o→k<c.B∧belowO c.B o=true:=λk o e=>D _ (lk_mem e)
 clear D
 have hF:∀k o,lk k c.RD=some o→lk k st.F=some o:=by
  intro k o e
  refine E12 R.rd.1 λee he hb=>?_
  rw[he,lk_append,lk_none_of (λp hp z=>absurd (hRD k o e).1 (Nat.not_lt_of_le (Nat.le_trans (hb p hp) (Nat.le_of_eq z))))]
  exact e
 have lkF:∀k o,lk k (ex++c.RD)=some o→lk k ex=some o∨lk k c.RD=some o:=by
  intro k o e
  rw[lk_append]at e
  cases z:lk k ex with
  |some x=>rw[z]at e;exact .inl e
  |none=>rw[z]at e;exact .inr e
 refine⟨⟨R.ks,R.nol,R.old,R.still,R.tab,λk o e=>nos e,λk o e=>?_,λk k' _ z=>E11 z λo e=>nos e,λk z=>E11 z λo e=>nos e,λk z=>E11 z λo e=>nos e,?_,?_,⟨ex,rfl,λp hp=>(h1 p hp).1⟩,λk z=>E11 z λo e=>nos e,Nat.le_add_right _ _⟩,h3 _ (Nat.le_refl _)⟩
 ·rcases lkF k o e with z|z
  ·exact(h2 k o z).1 _ (Nat.le_add_right _ _)
  ·rw[rhoC_low (hRD k o z).1]
   exact(R.fro k o (hF k o z)).re (Nat.le_add_right _ _) (λj hj=>rhoC_low hj) (hRD k o z).2
 ·intro k z
  rcases z with z|z
  ·exact E11 z λo e=>nos e
  ·refine E11 z λo e=>?_
   rcases lkF k o e with z|z
   ·exact(h1 _ (lk_mem z)).2
   ·exact Nat.lt_of_lt_of_le (hRD k o z).1 (Nat.le_add_right _ _)
 ·intro k z
  refine E11 z λo e=>?_
  rcases lkF k o e with z|z
  ·exact(h2 k o z).2
  ·rw[rhoC_low (hRD k o z).1];exact R.ntbF k ⟨o,hF k o z⟩
theorem SemCall.pure(C:c.Ok)(D:RDok c){fv:V}{g:List V→M V}(hf:∀n ρ h n' ρ' h' fv',VR n ρ h fv fv'→VR n' ρ' h' fv fv')(hg:SemCall c d fv g):SemCall c d fv (pureM c.RD c.B g):=by
 intro A ρ st args v st' fv' args' s Q E hA R rf ra h0 hQ
 refine E43 (pureM_inv h0) λvs ex v1 st1 q q1 q2=>?_;clear h0
 refine E02 (R.pureAt C D q ra) λR0 h3=>?_;clear q ra D
 refine hg A (rhoC c.B ρ args) _ vs v1 st1 fv' args' s Q E hA R0 (hf _ _ _ _ _ _ _ rf) h3 q1 λρ1 h1' tk1 v' N1 R1 r1=>?_
 clear hg q1 h3 hf rf hA
 have un:∀b o,s.heap.get? b=some o→¬c.TB b→h1'.get? b=some o:=λb o e ht=>N1.un b o e (λk z=>E11 z λo e=>nos e) (λq=>q) ht
 have T:Tr st.n ρ s.heap st.n ρ h1':=⟨Nat.le_refl _,λ_ _=>rfl,N1.tr.tup⟩
 have hpres:∀ {k:Nat} {o:AO},(Has k st.H∨Has k st.F)→OAt prog w st.n ρ s.heap (ρ k) o→OAt prog w st.n ρ h1' (ρ k) o:=λhk x=>
  E12 x.ex λob e _=>x.tr T ((un _ _ e (hk.elim (λhk=>RelH.ntb C (R.low _ hk)) λhk=>R.ntbF _ hk)).trans e.symm)
 have R':RelH c ρ st h1':=⟨R1.ks,R1.nol,R1.old,R1.still,R1.tab,λk o e=>hpres (.inl ⟨o,e⟩) (R.obj k o e),λk o e=>hpres (.inr ⟨o,e⟩) (R.fro k o e),R.inj,R.dis,R.low,R.lt,R.ntbF,R.rd⟩
 have N':Nx c NoA ρ st s.heap ρ st h1':=⟨T,λb o e _ _ ht=>un b o e ht,λ_ e=>.inl e,λ_ e=>.inr (.inl e),N1.th⟩
 have low1:∀j,j<c.B→ρ j=ρ1 j:=λj hj=>(rhoC_low hj).symm.trans (N1.tr.ext j (Nat.lt_of_lt_of_le hj (Nat.le_add_right _ _))).symm
 clear hpres T un
 rcases expo_inv q2 with⟨qb,e⟩|⟨k,xs,e1,q3,q4,e⟩
 ·rw[Prod.mk.inj e |>.1,Prod.mk.inj e |>.2]at hQ
  exact hQ ρ h1' tk1 v' N' R' (r1.re R.rd.2.2 low1 qb)
 ·rw[Prod.mk.inj e |>.1,Prod.mk.inj e |>.2]at hQ
  clear q2 e;subst e1
  have fr:s.heap.get? (ρ1 k)=none:=(N1.new k ⟨_,q3⟩).elim (λz=>E11 z λo e=>nos e) id
  have ne:∀i,Has i st.H∨Has i st.F→ρ i≠ρ1 k:=λi hi z=>by
   have:∃ob,s.heap.get? (ρ i)=some ob:=hi.elim (λy=>E11 y λq e=>E12 (R.obj i q e).ex λob e' _=>⟨ob,e'⟩) λy=>E11 y λq e=>E12 (R.fro i q e).ex λob e' _=>⟨ob,e'⟩
   exact E11 this λob e'=>nn fr (z▸e')
  have hO:OAt prog w st.n ρ h1' (ρ1 k) (.list xs):=(R1.obj k _ q3).re (B:=c.B) R.rd.2.2 low1 q4
  have e:put ρ st.n (ρ1 k) st.n=ρ1 k:=if_pos rfl
  have qv:=VR.ref (n:=st.n+1) (ρ:=put ρ st.n (ρ1 k)) (h:=h1') (k:=st.n) (Nat.lt_succ_self _)
  rw[r1.inv.1]
  rw[e]at qv
  exact hQ _ h1' tk1 _ (N'.adopt R' fr) (R'.adopt hO (R.fresh fr) ne) qv
end
end
structure XP where
 SR:List (Nat×AO)
 RD:List (Nat×AO)
 B:Nat
 SC:Option (Addr×List Int)
noncomputable def cst(v:V):Loc→M V:=λ_=>pure v
noncomputable def binE(f g:Loc→M V)(o:V→V→M V):Loc→M V:=λl=>do
 let a ←f l
 let b ←g l
 o a b
noncomputable def esN:Loc→M (List V):=λ_=>pure []
noncomputable def esC(f:Loc→M V)(g:Loc→M (List V)):Loc→M (List V):=λl=>do
 let a ←f l
 let b ←g l
 pure (a::b)
noncomputable def callE(fs:Loc→M (List V))(g:List V→M V):Loc→M V:=λl=>do
 let vs ←fs l
 g vs
noncomputable def lstE(fs:Loc→M (List V)):Loc→M V:=λl=>do
 let vs ←fs l
 mkL vs
noncomputable def tupE(fs:Loc→M (List V)):Loc→M V:=λl=>do
 let vs ←fs l
 guard' (Nat.ble vs.length 100000)
 pure (.tup vs)
noncomputable def psN:Loc→M (List (V×V)):=λ_=>pure []
noncomputable def psC(f g:Loc→M V)(fs:Loc→M (List (V×V))):Loc→M (List (V×V)):=λl=>do
 let a ←f l
 let b ←g l
 let r ←fs l
 pure ((a,b)::r)
noncomputable def valI(SR:List (Nat×AO))(f:Loc→M V):Loc→M (Nat→St→Option (Option V)):=λl=>do
 let v ←f l
 pickI SR v
noncomputable def rngI'(fs:Loc→M (List V)):Loc→M (Nat→St→Option (Option V)):=λl=>do
 let vs ←fs l
 rngI vs
noncomputable def enuI(SR:List (Nat×AO))(fs:Loc→M (List V)):Loc→M (Nat→St→Option (Option V)):=λl=>do
 let vs ←fs l
 enmI SR vs
noncomputable def nextS:Loc→M (Loc×Fl):=λl=>pure (l,.next)
noncomputable def contS:Loc→M (Loc×Fl):=λl=>pure (l,.cont)
noncomputable def ret0S:Loc→M (Loc×Fl):=λl=>pure (l,.ret .none)
noncomputable def trueT:Loc→M Bool:=λ_=>pure true
noncomputable def falseT:Loc→M Bool:=λ_=>pure false
noncomputable def noP:Loc→M (Option Int):=λ_=>pure none
noncomputable def asN:List V→Loc→M Loc:=λ_ l=>pure l
noncomputable def nofS:Loc→M (Loc×Fl):=λ_=>fail
section
variable{prog:Program}{w:World}{c:Cfg prog w}{ec:Env→Prop}{nl:List Str}{d:Nat}
noncomputable abbrev Cfg.xp (c:Cfg prog w):XP:=⟨c.SR,c.RD,c.B,c.SC⟩
theorem R.cint{i:Int}{k:Nat}{pos:Pos}:SemE c ec nl d (.Constant (.int i) k pos) (cst (.int i)):=SemE.cint
theorem R.cstr{x:Str}{y:List Nat}{k:Nat}{pos:Pos}(hy:x.cps.toList=y):SemE c ec nl d (.Constant (.str x) k pos) (cst (.str y)):=SemE.cstr hy
theorem R.cnone{k:Nat}{pos:Pos}:SemE c ec nl d (.Constant .none k pos) (cst .none):=SemE.cnone
theorem R.cbool{b:Bool}{k:Nat}{pos:Pos}:SemE c ec nl d (.Constant (.bool b) k pos) (cst (.bool b)):=SemE.cbool
theorem R.name{SC:Scope}{cn:List Str}{i:Nat}{x:Str}{pos:Pos}(hx:nl[i]? =some x)(hd:(x==("__debug__":Str))=false)(hcd:(x==("__classdict__":Str))=false):SemE c (EC SC cn) nl d (.Name x pos) (gt i):=
 SemE.name hx (λ_ h=>h.ok) hd hcd
theorem R.bin{op:Operator}{e₁ e₂:Expr}{pos:Pos}{f g:Loc→M V}{o:V→V→M V}(C:c.Ok)(h₁:SemE c ec nl d e₁ f)(h₂:SemE c ec nl d e₂ g)(ho:SemOp c d (binaryOp op) o):SemE c ec nl d (.BinOp e₁ op e₂ pos) (binE f g o):=SemE.binop C h₁ h₂ ho
theorem R.cmp{op:CmpOp}{e₁ e₂:Expr}{pos:Pos}{f g:Loc→M V}{o:V→V→M V}(C:c.Ok)(h₁:SemE c ec nl d e₁ f)(h₂:SemE c ec nl d e₂ g)(ho:SemOp c d (compareOp op) o)(hm:behindInMarks op e₂=false):SemE c ec nl d (.Compare e₁ [op] [e₂] pos) (binE f g o):=SemE.cmp C h₁ h₂ ho hm
theorem R.tcmp{op:CmpOp}{e₁ e₂:Expr}{pos:Pos}{f g:Loc→M V}{o:V→V→M V}(C:c.Ok)(h₁:SemE c ec nl d e₁ f)(h₂:SemE c ec nl d e₂ g)(ho:SemOp c d (compareOp op) o)(hm:behindInMarks op e₂=false):SemT c ec nl d (.Compare e₁ [op] [e₂] pos) (tst c.SR (binE f g o)):=SemT.cmp C h₁ h₂ ho hm
theorem R.esN:SemEs c ec nl d [] esN:=SemEs.nil
theorem R.esC{e:Expr}{es:List Expr}{f:Loc→M V}{g:Loc→M (List V)}(C:c.Ok)(h₁:SemE c ec nl d e f)(h₂:SemEs c ec nl d es g)(hs:∀env,starEach (e::es) env=(false,eval e env)::starEach es env):SemEs c ec nl d (e::es) (esC f g):=SemEs.cons C h₁ h₂ hs
theorem R.call{fe:Expr}{fv:V}{args:List Expr}{pos:Pos}{fs:Loc→M (List V)}{g:List V→M V}(C:c.Ok)(hk:Keep c fv)(hp:plainEs args=true)(hfe:SemE c ec nl d fe (cst fv))(ha:SemEs c ec nl d args fs)(hc:SemCall c d fv g)(hx:∃x p,fe=.Name x p):
 SemE c ec nl d (.Call fe args [] pos) (callE fs g):=SemE.call C hk hp hfe ha hc hx
theorem R.list{es:List Expr}{pos:Pos}{fs:Loc→M (List V)}(C:c.Ok)(h:SemEs c ec nl d es fs):SemE c ec nl d (.List es pos) (lstE fs):=SemE.list C h
theorem R.tup{es:List Expr}{k:Nat}{pos:Pos}{fs:Loc→M (List V)}(C:c.Ok)(h:SemEs c ec nl d es fs)(hl:es.length≤100):SemE c ec nl d (.Tuple es k pos) (tupE fs):=SemE.tup C h hl
theorem R.psN:SemPs c ec nl d [] [] psN:=SemPs.nil
theorem R.psC{k v:Expr}{ks:List (Option Expr)}{vs:List Expr}{f g:Loc→M V}{fs:Loc→M (List (V×V))}(C:c.Ok)(h₁:SemE c ec nl d k f)(h₂:SemE c ec nl d v g)(h₃:SemPs c ec nl d ks vs fs):SemPs c ec nl d (some k::ks) (v::vs) (psC f g fs):=SemPs.cons C h₁ h₂ h₃
theorem R.valI{tg e:Expr}{f:Loc→M V}(C:c.Ok)(S:SRok c)(h:SemE c ec nl d e f):SemI c ec nl d tg e (valI c.SR f):=SemI.val C S h
theorem R.rngI{tg fe:Expr}{args:List Expr}{pos:Pos}{fs:Loc→M (List V)}(C:c.Ok)(hp:plainEs args=true)(hfe:SemE c ec nl d fe (cst (.ty "range")))(ha:SemEs c ec nl d args fs)(hx:∃x p,fe=.Name x p):SemI c ec nl d tg (.Call fe args [] pos) (rngI' fs):=SemI.range C hp hfe ha hx
theorem R.enuI{elts:List Expr}{k:Nat}{tpos:Pos}{fe:Expr}{args:List Expr}{pos:Pos}{fs:Loc→M (List V)}(C:c.Ok)(S:SRok c)(hp:plainEs args=true)(hfe:SemE c ec nl d fe (cst (.ty "enumerate")))(ha:SemEs c ec nl d args fs)(hx:∃x p,fe=.Name x p):
 SemI c ec nl d (.Tuple elts k tpos) (.Call fe args [] pos) (enuI c.SR fs):=SemI.enum C S hp hfe ha hx
theorem R.sub{e₁ e₂:Expr}{pos:Pos}{f g:Loc→M V}(C:c.Ok)(S:SRok c)(h₁:SemE c ec nl d e₁ f)(h₂:SemE c ec nl d e₂ g)(hs:∀o i,subscripted e₂ false o i=operate [o,i] (getItem o i)):SemE c ec nl d (.Subscript e₁ e₂ pos) (binE f g (getI c.SR)):=SemE.sub C S h₁ h₂ hs
theorem R.glob{SC:Scope}{cn:List Str}{x:Str}{pos:Pos}{v:V}{val:Value}(C:c.Ok)(hk:SC.names.lookup x=some .globalImplicit)(e:nsIn c.KS mainGlobals x=some (some val))(hv:∀n ρ h,c.KS.In h→VR n ρ h v val)(hd:(x==("__debug__":Str))=false):SemE c (EC SC cn) nl d (.Name x pos) (cst v):=
 SemE.glob C (λ_ h=>h.ok) (λ_ h=>(h.kind x).trans hk) e hv hd
theorem R.builtin{SC:Scope}{cn:List Str}{x:Str}{pos:Pos}{v:V}{val:Value}(C:c.Ok)(hk:SC.names.lookup x=some .globalImplicit)(e:nsIn c.KS mainGlobals x=some none)(hb:bootBuiltins x=some val)(hn:x≠"__name__")(hv:∀n ρ h,VR n ρ h v val)(hd:(x==("__debug__":Str))=false):SemE c (EC SC cn) nl d (.Name x pos) (cst v):=
 SemE.builtin C (λ_ h=>h.ok) (λ_ h=>(h.kind x).trans hk) e hb hn hv hd
theorem R.bN:SemB c ec nl d [] nextS:=SemB.nil
theorem R.cont{pos:Pos}:SemS c ec nl d (.Continue pos) contS:=SemS.cont
theorem R.ret0{pos:Pos}:SemS c ec nl d (.Return none pos) ret0S:=SemS.ret0
theorem R.andN:SemTL c ec nl d .And [] trueT:=SemTL.andNil
theorem R.orN:SemTL c ec nl d .Or [] falseT:=SemTL.orNil
theorem R.tN:SemTs c ec nl d [] trueT:=SemTs.nil
theorem R.pN:SemP c ec nl d none noP:=SemP.no
theorem R.asN{fp:Env→Addr→Prop}:SemAs c ec nl d fp [] asN:=SemAs.nil
theorem R.nameA{SC:Scope}{cn:List Str}{i:Nat}{x:Str}{pos:Pos}(C:c.Ok)(hx:nl[i]? =some x)(hk:SC.names.lookup x=some .local):SemA c (EC SC cn) nl d FPe (.Name x pos) (st' i):=
 SemA.name C (λ_ h=>h.ok) hx λenv h=>.loc ((h.kind x).trans hk)
theorem R.cellA{SC:Scope}{cn:List Str}{i:Nat}{x:Str}{pos:Pos}(C:c.Ok)(hx:nl[i]? =some x)(hk:SC.names.lookup x=some .cell)(hc:x∈cn):SemA c (EC SC cn) nl d FPe (.Name x pos) (st' i):=
 SemA.name C (λ_ h=>h.ok) hx λenv h=>let⟨a,ha⟩:=h.2.2.2.2 x hc;.cell a ((h.kind x).trans hk) ha
theorem R.nameL{SC:Scope}{cn:List Str}{i:Nat}{x:Str}{pos:Pos}(C:c.Ok)(hx:nl[i]? =some x)(hk:SC.names.lookup x=some .local):SemA c (EC SC cn) nl d FPl (.Name x pos) (st' i):=
 SemA.nameL C (λ_ h=>h.ok) hx λenv h=>(h.kind x).trans hk
theorem R.expr{SC:Scope}{cn:List Str}{e:Expr}{pos:Pos}{f:Loc→M V}(h:SemE c (EC SC cn) nl d e f)(hs:∀env,EC SC cn env→swapsWith e none pos.line env=pure false):SemS c (EC SC cn) nl d (.Expr e pos) (doE f):=SemS.expr h (λ_ h=>h.ok) hs
theorem R.nofS{b:Stmt}:SemS c ec nl d b Mine.nofS:=SemS.failS
end
structure FD where
 params:Arguments
 body:List Stmt
 scope:Scope
noncomputable def fdS:Option Stmt→FD
 |some (.FunctionDef _ ps b _ _ _ sc _ _ _)=>⟨ps,b,sc⟩
 |_=>⟨⟨[],[],none,[],[],none,[]⟩,[],{kind:=.function,names:=[],isGenerator:=false,isCoroutine:=false}⟩
noncomputable def bodyS:Option Stmt→List Stmt
 |some (.ClassDef _ _ _ b _ _ _ _ _ _ _)=>b
 |_=>[]
noncomputable def topF(i:Nat):FD:=fdS (PySem.Challenge.pw_on0375_01.main.body[i]?)
noncomputable def metF(i j:Nat):FD:=fdS ((bodyS (PySem.Challenge.pw_on0375_01.main.body[i]?))[j]?)
noncomputable def FnAt(K:Frag)(fa:Addr)(F:FD)(names:List Str)(n:Nat)(ex:List Value):Prop:=
 ∃(name qual:Str) (dV kV doc pm cdv ct oc:Value) (an od:Option Addr) (osl:Array (Option Value)),
  K.lookup fa=some ⟨oc,od,.func (fnOf name qual F.params F.body F.scope dV kV doc pm an cdv ct),osl⟩∧codeIn K cdv qual=true∧
  ∀(s:Shared) (vals:List Value),K.In s.heap→vals.length=n→BindsTo s (fnOf name qual F.params F.body F.scope dV kV doc pm an cdv ct) ⟨vals,[]⟩ (names.zip (vals++ex))
noncomputable def FnAtC(K:Frag)(fa:Addr)(F:FD)(names:List Str)(n:Nat):Prop:=
 ∃(name qual:Str) (dV kV doc pm cdv ct oc:Value) (an od:Option Addr) (osl:Array (Option Value)),
  K.lookup fa=some ⟨oc,od,.func (fnOf name qual F.params F.body F.scope dV kV doc pm an cdv ct),osl⟩∧codeIn K cdv qual=true∧
  ∀(vals:List Value),vals.length=n→bindArgs (fnOf name qual F.params F.body F.scope dV kV doc pm an cdv ct) ⟨vals,[]⟩=pure (names.zip vals)
section
variable{prog:Program}{w:World}{c:Cfg prog w}{nl:List Str}{d:Nat}
theorem SemCode.at{fa:Addr}{F:FD}{names:List Str}{n:Nat}{exV:List V}{ex:List Value}{f:Loc→M (Loc×Fl)}(C:c.Ok)(h:FnAt c.KS fa F names n ex)
 (hloc:locB names F.scope=true) (hcell:noCell F.scope=true) (hnl:headB names nl=true) (nd:nl.Nodup) (ndn:names.Nodup) (hex:∀n ρ h,VRs n ρ h exV ex)
 (hb:SemB c (EC F.scope []) nl d F.body f) (hco:F.scope.isCoroutine=false) (hgen:F.scope.isGenerator=false) (hk:F.scope.kind=.function) (hlen:names.length=n+ex.length:=by decide):SemCode c (d+1) fa (fnM n exV f):=by
 refine bc λhno=>?_;obtain⟨name,qual,dV,kV,doc,pm,cdv,ct,oc,an,od,osl,h1,h2,h3⟩:=h
 refine hno ?_;exact SemCode.fn C h1 h2 h3 hloc hcell hnl nd ndn hex hlen hb hco hgen hk
theorem SemCode.atC{fa:Addr}{F:FD}{names cn:List Str}{n:Nat}{f:Loc→M (Loc×Fl)}(C:c.Ok)(h:FnAtC c.KS fa F names n)
 (hloc:locC names cn F.scope=true) (hcl:∀k,(cn.all λx=>((cellsFrom k F.scope.names []).lookup x).isSome)=true) (hnl:headB names nl=true) (nd:nl.Nodup) (ndn:names.Nodup)
 (hb:SemB c (EC F.scope cn) nl d F.body f) (hco:F.scope.isCoroutine=false) (hgen:F.scope.isGenerator=false) (hk:F.scope.kind=.function) (hlen:names.length=n:=by decide):SemCode c (d+1) fa (fnM n [] f):=by
 refine bc λhno=>?_;obtain⟨name,qual,dV,kV,doc,pm,cdv,ct,oc,an,od,osl,h1,h2,h3⟩:=h
 refine hno ?_;exact SemCode.fnC C h1 h2 h3 hloc hcl hnl nd ndn hlen hb hco hgen hk
theorem SemCode.none{fa:Addr}:SemCode c d fa (λ_=>fail):=by
 intro A ρ st args v st' args' s RR hA R ra h0 hQ
 exact nos h0
theorem scEq{P:Env→Prop}{SC:Scope}{cn:List Str}(hp:∀env:Env,P {env with scope:=SC}):∀env,EC SC cn env→P env:=λenv h=>by
 have:=hp env
 rw[←h.1]at this
 exact this
noncomputable def notE(SR:List (Nat×AO))(f:Loc→M V):Loc→M V:=λl=>do
 let v ←f l
 let b ←truM SR v
 pure (.bool (!b))
theorem SemE.notV{ec:Env→Prop}{x:Expr}{pos:Pos}{f:Loc→M V}(h:SemE c ec nl d x f):SemE c ec nl d (.UnaryOp .Not x pos) (notE c.SR f):=by
 intro A env l ρ st v st' s Q E he hA R X h0 hQ
 refine bc λhno=>?_;refine E22 (mbind h0) λv₁ st₁ hf hr=>?_
 refine E22 (mbind hr) λb st₂ ht hr2=>?_
 clear hr
 refine E02 (truM_inv ht) λh1 e1=>?_
 dsimp only at h1 e1
 clear h0 ht;subst e1
 refine E02 (Prod.mk.inj (mpure hr2)) λq9456 q9457=>?_;clear hr2;subst q9456;subst q9457
 refine hno ?_;refine wpAny_UnaryOp (h A env l ρ st _ _ s _ E he hA R X hf λρ₁ h₁ tk₁ v' N₁ R₁ X₁ rv=>?_)
 exact not_of (truthy_sem (s:={s with heap:=h₁,toks:=tk₁}) R₁ rv h1 λtk=>hQ ρ₁ h₁ tk _ N₁ R₁ X₁ (.bool _))
noncomputable def slcX(SC:Option (Addr×List Int))(f:Loc→M V)(p q:Loc→M (Option Int)):Loc→M V:=λl=>do
 let v ←f l
 let a ←p l
 let b ←q l
 match v,SC with
 |.adr z,some (y,sc)=>match Nat.beq z y with
  |true=>λst=>some (.ref st.n,st.add (.list (pickV (sc.map V.int) a b none)))
  |false=>fail
 |_,_=>fail
theorem SemE.sliceX{ec:Env→Prop}{e:Expr}{lo hi:Option Expr}{p pos:Pos}{f:Loc→M V}{fa fb:Loc→M (Option Int)}(C:c.Ok)(h:SemE c ec nl d e f)(ha:SemP c ec nl d lo fa)(hb:SemP c ec nl d hi fb)
 (hs:∀o i,subscripted (.Slice lo hi none p) false o i=operate [i,o] (getItem o i)):SemE c ec nl d (.Subscript e (.Slice lo hi none p) pos) (slcX c.SC f fa fb):=by
 intro A env l ρ st v st' s Q E he hA R X h0 hQ
 obtain⟨v₁,st₁,hf,hr⟩:=mbind h0
 clear h0
 obtain⟨a,st₂,hfa,hr2⟩:=mbind hr
 clear hr
 obtain⟨b,st₃,hfb,hr⟩:=mbind hr2
 clear hr2
 cases v₁ <;> first|(cases hr;done)|skip
 rename_i z
 refine bc λhno=>?_;cases hsc:c.SC with
 |none=>rw[hsc]at hr;cases hr
 |some yy=>
 obtain⟨y,sc⟩:=yy
 rw[hsc]at hr
 dsimp only at hr
 cases hz:Nat.beq z y with
 |false=>rw[hz]at hr;cases hr
 |true=>
 rw[hz]at hr
 have hz:=Nat.eq_of_beq_eq_true hz
 subst hz
 cases hr
 refine hno ?_;refine Subscript_ (h A env l ρ st _ st₁ s _ E he hA R X hf λρ₁ h₁ tk₁ v' N₁ R₁ X₁ rv=>wpAny_Slice ?_)
 refine ha A env l ρ₁ st₁ a st₂ {s with heap:=h₁,toks:=tk₁} _ E he hA R₁ X₁ hfa λρ₂ h₂ tk₂ a' N₂ R₂ X₂ pa=>?_
 refine hb A env l ρ₂ st₂ b st₃ {s with heap:=h₂,toks:=tk₂} _ E he hA R₂ X₂ hfb λρ₃ h₃ tk₃ b' N₃ R₃ X₃ pb=>?_
 rw[evalPart_none]
 refine wpAny_pure ?_
 dsimp only
 have k:∀z o,h₃.get? z=some o→(h₃.push {cls:=.type "slice",data:=.fields #[a',b',.none]}).get? z=some o:=λz o e=>Heap.get?_push_of_some _ e
 have N₄:Nx c NoA ρ₃ st₃ h₃ ρ₃ st₃ (h₃.push {cls:=.type "slice",data:=.fields #[a',b',.none]}):=.keep k
 have R₄:=R₃.keep C k
 have X₄:=X₃.nx C R₃ R₄ N₄
 refine bc λhno=>?_;cases rv
 obtain⟨its,hL,hsz,hi⟩:=C.scr _ hsc _ R₄.still
 dsimp only at hL hi
 have rs:=VRs.of_ints (n:=st₃.n) (ρ:=ρ₃) (h:=h₃.push {cls:=.type "slice",data:=.fields #[a',b',.none]}) hi
 refine hno ?_;refine sub_tail (s:={s with heap:=h₃.push {cls:=.type "slice",data:=.fields #[a',b',.none]},toks:=tk₃}) hL.typeIs slot_list_getitem.lookup
  (wpAny_getItem_list_slice hL (Heap.IsSliceOf.new ..) pa pb .none (by simp) ?_ (by rw[sizeLine_eq];lia)) (hs _ _)
 have rp:VRs st₃.n ρ₃ (h₃.push {cls:=.type "slice",data:=.fields #[a',b',.none]}) (pickV (sc.map V.int) a b none) (slicePick its a b none).toList:=rs.slice a b none
 obtain⟨N₅,R₅,rv⟩:=list_new C R₄ rp
 have N₁₂:=N₁.trans R R₁ N₂ λ_ q=>q.elim
 have N₁₃:Nx c NoA ρ st s.heap ρ₃ _ h₃:=N₁₂.trans R R₂ N₃ λ_ q=>q.elim
 have N₁₄:Nx c NoA ρ st s.heap ρ₃ _ _:=N₁₃.trans R R₃ N₄ λ_ q=>q.elim
 exact hQ _ _ tk₃ _ (N₁₄.trans R R₄ N₅ λ_ q=>q.elim) R₅ (X₄.nx C R₄ R₅ N₅) rv
end
noncomputable def Lx(w:Nat→Int)(a b:Nat):Prop:=w a<w b∨(w a=w b∧a<b)
structure SP (f:Nat→Keyed) (n k:Nat) (p:Nat→Nat) (st:SortSt):Prop where
 size:(arrOf st).size=n
 at_:∀i,i<n→(arrOf st)[i]? =some (f (p i))
 kind:kindOf st=oneType'
 failed:failedOf st=none
 pend:pendingOf st= #[]
 low:∀i,i<k→p i<k
 id_:∀i,k≤i→p i=i
noncomputable def Up(w:Nat→Int)(p:Nat→Nat)(k:Nat):Prop:=∀i j,i<j→j<k→Lx w (p i) (p j)
noncomputable def mir(p:Nat→Nat)(i j:Nat):Nat→Nat:=λk=>if i≤k∧k<j then p (i+j-1-k)else p k
noncomputable def bub(p:Nat→Nat)(k l:Nat):Nat→Nat:=λi=>if i=l then p k else if l<i∧i≤k then p (i-1)else p i
section
variable{prog:Program}{W:World}{A:Around}{E:Value→Shared→Prop}{s:Shared}{f:Nat→Keyed}{w:Nat→Int}{n:Nat}
theorem SP.mir{k i j:Nat}{p:Nat→Nat}{st:SortSt}(h:SP f n k p st)(hj:j≤k)(hk:k≤n):SP f n k (Mine.mir p i j) (setArr st (mirror (arrOf st) i j ((j-i) / 2))):=by
 refine⟨(mirror_size _ _ _ _).trans h.size,λx hx=>?_,h.kind,h.failed,h.pend,λx hx=>?_,λx hx=>?_⟩
 ·show(mirror (arrOf st) i j ((j-i) / 2))[x]? = _
  rw[getElem?_mirror_all (by rw[h.size];omega)]
  unfold Mine.mir
  split
  ·exact h.at_ _ (by omega)
  ·exact h.at_ x hx
 ·unfold Mine.mir;split
  ·exact h.low _ (by omega)
  ·exact h.low x hx
 ·unfold Mine.mir;rw[if_neg (by omega)];exact h.id_ x hx
theorem SP.more{k k':Nat}{p:Nat→Nat}{st:SortSt}(h:SP f n k p st)(hk:k≤k'):SP f n k' p st:=
 ⟨h.size,h.at_,h.kind,h.failed,h.pend,λi hi=>by
   rcases Nat.lt_or_ge i k with q|q
   ·exact Nat.lt_of_lt_of_le (h.low i q) hk
   ·rw[h.id_ i q];exact hi,λi hi=>h.id_ i (Nat.le_trans hk hi)⟩
theorem wpS_ltP{k:Nat}{p:Nat→Nat}{st:SortSt}{i j:Nat}{Q:Option Bool→SortSt→Prop}(hf:∀i,i<n→∃t q,f i=(.int (w i) t,q))(hkn:k≤n)(h:SP f n k p st)(hi:i<n)(hj:j<n)
 (hQ:Q (some (decide (w (p i)<w (p j)))) st):wpS (model prog W) A E s (ltAt' i j) Q st:=by
 have lt:∀x,x<n→p x<n:=λx hx=>by
  rcases Nat.lt_or_ge x k with q|q
  ·exact Nat.lt_of_lt_of_le (h.low x q) hkn
  ·rw[h.id_ x q];exact hx
 refine E21 (hf _ (lt i hi)) λt q e=>?_
 refine E21 (hf _ (lt j hj)) λt' q' e'=>?_
 exact wpS_ltAt h.kind ((h.at_ i hi).trans (congrArg some e)) ((h.at_ j hj).trans (congrArg some e')) hQ
theorem wpS_binP{st:SortSt}{ok:Nat}{p:Nat→Nat}{Q:Bool→SortSt→Prop}(hf:∀i,i<n→∃t q,f i=(.int (w i) t,q))(hok:ok≤n)(h0:1≤ok)(hB:SP f n ok p st)(hs:Up w p ok)
 (h:∀st' p',SP f n n p' st'→Up w p' n→Q true st'):wpS (model prog W) A E s (binarySort' 0 n ok) Q st:=by
 rw[binarySort'_eq]
 simp only[Nat.zero_add]
 refine wpS_bind (wpS_mono (wpS_forRange (I:=λk c st'=>c=(none,())∧k≤n∧∃p',SP f n k p' st'∧Up w p' k)
  (Q:=λc st'=>c=(none,())∧∃p',SP f n n p' st'∧Up w p' n) ?step ?fin ?init) ?post)
 case post=>
  intro c st' y81;refine E02 y81 λq9421 y9422=>?_;clear y81;subst q9421;refine E12 y9422 λp' hB' hs'=>?_;clear y9422
  exact wpS_pure (h st' p' hB' hs')
 case init=>rw[Nat.max_eq_left h0];exact⟨rfl,hok,p,hB,hs⟩
 case fin=>
  intro c st' y81;refine E03 y81 λhc hk y9449=>?_;clear y81;refine E12 y9449 λp' hB' hs'=>?_;clear y9449
  rw[show max (max ok 1) n=n by lia]at hB' hs'
  exact⟨hc,p',hB',hs'⟩
 case step=>
  intro k c st' hak hkn y81;refine E03 y81 λq9477 _ y9478=>?_;clear y81;subst q9477;refine E12 y9478 λp' hB' hs'=>?_;clear y9478
  refine wpS_bind (wpS_mono (wpS_forRange (I:=λx c st''=>st''=st'∧∃l r,c=(none,l,r)∧l≤r∧r≤k∧r-l≤k-x∧
   (∀i,i<l→w (p' i)≤w k)∧(∀i,r≤i→i<k→w k<w (p' i)))
   (Q:=λc st''=>st''=st'∧∃l r,c=(none,l,r)∧l≤k∧
     (∀i,i<l→w (p' i)≤w k)∧(∀i,l≤i→i<k→w k<w (p' i))) ?istep ?ifin ?iinit) ?ipost)
  case iinit=>exact⟨rfl,0,k,rfl,Nat.zero_le _,Nat.le_refl _,Nat.le_refl _,λi hi=>absurd hi (Nat.not_lt_zero _),λi h1 h2=>absurd h1 (Nat.not_le_of_lt h2)⟩
  case ifin=>
   intro c st'' y81;refine E02 y81 λq9526 y9527=>?_;clear y81;subst q9526;refine E26 y9527 λl r q9528 hlr hrk hm hlo hhi=>?_;clear y9527;subst q9528
   have:l=r:=by lia
   subst this
   exact⟨rfl,l,l,rfl,hrk,hlo,hhi⟩
  case istep=>
   intro x c st'' _ hxk y81;refine E02 y81 λq9561 y9562=>?_;clear y81;subst q9561;refine E26 y9562 λl r q9563 hlr hrk hm hlo hhi=>?_;clear y9562;subst q9563
   dsimp only
   by_cases hge:l ≥ r
   ·rw[if_pos hge]
    have:l=r:=Nat.le_antisymm hlr hge
    subst this
    exact wpS_pure ⟨rfl,l,l,rfl,hrk,hlo,hhi⟩
   ·rw[if_neg hge]
    have mono:∀i j,i≤j→j<k→w (p' i)≤w (p' j):=λi j hij hj=>by
     rcases Nat.lt_or_ge i j with q|q
     ·rcases hs' i j q hj with z|z
      ·exact Int.le_of_lt z
      ·exact Int.le_of_eq z.1
     ·rw[Nat.le_antisymm hij q];exact Int.le_refl _
    refine wpS_bind (wpS_ltP hf (Nat.le_of_lt hkn) hB' hkn (by lia) ?_)
    rw[hB'.id_ k (Nat.le_refl _)]
    by_cases hless:w k<w (p' ((l+r) / 2))
    ·simp only[hless,decide_true,if_true]
     exact wpS_pure ⟨rfl,l,(l+r) / 2,rfl,by lia,by lia,by lia,hlo,λi h1 h2=>Int.lt_of_lt_of_le hless (mono _ _ h1 h2)⟩
    ·simp only[hless,decide_false,Bool.false_eq_true,if_false]
     exact wpS_pure ⟨rfl,(l+r) / 2+1,r,rfl,by lia,by omega,by lia,λi h1=>Int.le_trans (mono i ((l+r) / 2) (by lia) (by lia)) (Int.not_lt.mp hless),hhi⟩
  case ipost=>
   intro c st'' y81;refine E02 y81 λq9715 y9716=>?_;clear y81;subst q9715;refine E24 y9716 λl r q9717 hlk hlo hhi=>?_;clear y9716;subst q9717
   show wpS _ _ _ _ (do moveDown' k l;pure (ForInStep.yield (none,()))) _ _
   rw[moveDown'_eq]
   have hks:k<(arrOf st'').size:=by rw[hB'.size];exact hkn
   have hk:=hB'.id_ k (Nat.le_refl _)
   refine wpS_bind (wpS_modify (wpS_pure ⟨rfl,hkn,bub p' k l,⟨(bubble_size _ _ _).trans hB'.size,λi hi=>?_,hB'.kind,hB'.failed,hB'.pend,λi hi=>?_,λi hi=>?_⟩,λi j hij hj=>?_⟩))
   ·show(bubble (arrOf st'') k (k-l))[i]? = _
    rw[getElem?_bubble hks _ (by lia),show k-(k-l)=l by lia]
    unfold bub
    split
    ·exact hB'.at_ k hkn
    ·split
     ·exact hB'.at_ (i-1) (by lia)
     ·exact hB'.at_ i hi
   ·unfold bub
    split
    ·rw[hk];exact Nat.lt_succ_self _
    ·split
     ·have:=hB'.low (i-1) (by lia);lia
     ·have:=hB'.low i (by lia);lia
   ·unfold bub
    rw[if_neg (by lia),if_neg (by lia)]
    exact hB'.id_ i (by lia)
   ·unfold bub
    have up:=λa b (x:a<b) (y:b<k)=>hs' a b x y
    have lw:=hB'.low
    by_cases c1:i=l
    ·rw[if_pos c1,hk,if_neg (by lia),if_pos (by lia)]
     exact .inl (hhi _ (by lia) (by lia))
    ·rw[if_neg c1]
     by_cases c2:j=l
     ·rw[if_neg (by lia),if_pos c2,hk]
      have a:=hlo i (by lia)
      have b:=lw i (by lia)
      unfold Lx;lia
     ·rw[if_neg c2]
      split
      ·rw[if_pos (by lia)];exact up _ _ (by lia) (by lia)
      ·split
       ·exact up _ _ (by lia) (by lia)
       ·exact up _ _ (by lia) (by lia)
theorem wpS_ascP{st:SortSt}{a:Nat}{p:Nat→Nat}{Q:AscSt→SortSt→Prop}(hf:∀i,i<n→∃t q,f i=(.int (w i) t,q))(ha:1≤a)(han:a≤n)(hB:SP f n a p st)(hs:Up w p a)
 (h:∀m,a≤m→m≤n→SP f n m p st→Up w p m→(m=n∨w m<w (p (m-1)))→Q (none,m) st):wpS (model prog W) A E s (ascLoop a n) Q st:=by
 unfold ascLoop
 refine wpS_forRange (I:=λx c st'=>st'=st∧c=(none,x)∧SP f n x p st∧Up w p x) ?step ?fin ⟨rfl,rfl,hB,hs⟩
 case fin=>
  intro c st' y81;refine E04 y81 λq937 q938 hB' hs'=>?_;clear y81;subst q937;subst q938
  rw[Nat.max_eq_right han]at hB' hs' ⊢
  exact h n han (Nat.le_refl _) hB' hs' (.inl rfl)
 case step=>
  intro x c st' hax hxn y81;refine E04 y81 λq965 q966 hB' hs'=>?_;clear y81;subst q965;subst q966
  dsimp only
  refine wpS_bind (wpS_ltP hf (Nat.le_of_lt hxn) hB' hxn (by lia) ?_)
  rw[hB'.id_ x (Nat.le_refl _)]
  by_cases hless:w x<w (p (x-1))
  ·simp only[hless,decide_true,if_true]
   exact wpS_pure (h x hax (Nat.le_of_lt hxn) hB' hs' (.inr hless))
  ·simp only[hless,decide_false,Bool.false_eq_true,if_false]
   refine wpS_pure ⟨rfl,rfl,hB'.more (Nat.le_succ _),λi j hij hj=>?_⟩
   rcases Nat.lt_or_ge j x with q|q
   ·exact hs' i j hij q
   ·have:j=x:=by lia
    subst this
    rw[hB'.id_ j (Nat.le_refl _)]
    have l1:=hB'.low (j-1) (by lia)
    rcases Nat.lt_or_ge i (j-1)with z|z
    ·have u:=hs' i (j-1) z (by lia)
     have l2:=hB'.low i (by omega)
     unfold Lx at u ⊢;lia
    ·have:i=j-1:=by lia
     subst this
     unfold Lx;lia
noncomputable def Dn(w:Nat→Int)(p:Nat→Nat)(k:Nat):Prop:=∀i j,i<j→j<k→Lx w (p j) (p i)
theorem wpS_tailP{st:SortSt}{m:Nat}{p:Nat→Nat}{Q:Option Nat→SortSt→Prop}(hf:∀i,i<n→∃t q,f i=(.int (w i) t,q))(h1:1≤m)(hm:m≤n)(hB:SP f n m p st)(hs:Dn w p m)
 (h:∀x p' st',SP f n x p' st'→Up w p' x→1≤x→x≤n→Q (some x) st'):wpS (model prog W) A E s (tail3 m n) Q st:=by
 unfold tail3
 refine wpS_bind (wpS_reverse ?_)
 refine wpS_bind (wpS_ascP hf h1 hm (hB.mir (i:=0) (Nat.le_refl _) hm) (λi j hij hj=>?_) λx hx1 hx2 hBx hsx _=>wpS_pure (h x _ _ hBx hsx (by omega) hx2))
 unfold Mine.mir
 rw[if_pos (by omega),if_pos (by omega)]
 exact hs _ _ (by omega) (by omega)
theorem wpS_descP{st:SortSt}{m:Nat}{p:Nat→Nat}{Q:Option Nat→SortSt→Prop}(hf:∀i,i<n→∃t q,f i=(.int (w i) t,q))(hm:m+1≤n)(hB:SP f n (m+1) p st)(hs:Dn w p (m+1))(hid:p m=m)
 (h:∀x p' st',SP f n x p' st'→Up w p' x→1≤x→x≤n→Q (some x) st'):wpS (model prog W) A E s (descPart m n) Q st:=by
 unfold descPart
 refine wpS_bind (wpS_lift (wpAny_rule ⟨rfl,?_⟩))
 have turned:∀(x neq:Nat) (p':Nat→Nat),neq+1≤x→(∀i j,i<j→j<x→i<x-(neq+1)→Lx w (p' j) (p' i))→(∀i,x-(neq+1)≤i→i<x→p' i=i∧w i=w (x-1))→Dn w (Mine.mir p' (x-(neq+1)) x) x:=by
  intro x neq p' hq hd hb i j hij hj
  unfold Mine.mir
  clear hf hm hB hs hid h hq;by_cases c1:x-(neq+1)≤i
  ·rw[if_pos ⟨by lia,hj⟩,if_pos ⟨c1,by lia⟩]
   have a:=hb (x-(neq+1)+x-1-i) (by lia) (by lia)
   have b:=hb (x-(neq+1)+x-1-j) (by lia) (by lia)
   rw[a.1,b.1]
   unfold Lx;lia
  ·rw[if_neg (c:=_≤i∧_) (by lia)]
   split
   ·exact hd _ _ (by lia) (by lia) (by lia)
   ·exact hd _ _ hij hj (by lia)
 refine wpS_bind (wpS_mono (?loop:wpS _ _ _ _ (descLoop (m+1) n) (λc st'=>∃x neq p',c=(none,x,neq)∧m+1≤x∧x≤n∧SP f n x p' st'∧neq+1≤x∧(∀i j,i<j→j<x→i<x-(neq+1)→Lx w (p' j) (p' i))∧(∀i,x-(neq+1)≤i→i<x→p' i=i∧w i=w (x-1))) _) ?_)
 case loop=>
  unfold descLoop
  refine wpS_forRange (I:=λx c st'=>∃neq p',c=(none,x,neq)∧SP f n x p' st'∧neq+1≤x∧(∀i j,i<j→j<x→i<x-(neq+1)→Lx w (p' j) (p' i))∧(∀i,x-(neq+1)≤i→i<x→p' i=i∧w i=w (x-1))) ?step ?fin
   ⟨0,p,rfl,hB,by lia,λi j hij hj _=>hs i j hij hj,λi h1 h2=>by have:i=m:=(by lia);subst this;exact⟨hid,rfl⟩⟩
  case fin=>
   intro c st' y81;refine E25 y81 λneq p' q9450 hB' hq hd hb=>?_;clear y81;subst q9450
   rw[Nat.max_eq_right hm]at hB' hq hd hb ⊢
   exact I37 n neq p' rfl hm (Nat.le_refl _) hB' hq hd hb
  case step=>
   intro x c st' hax hxn y81;refine E25 y81 λneq p' q9478 hB' hq hd hb=>?_;clear y81;subst q9478
   dsimp only
   refine wpS_bind (wpS_ltP hf (Nat.le_of_lt hxn) hB' hxn (by lia) ?_)
   rw[hB'.id_ x (Nat.le_refl _)]
   have hx1:=hb (x-1) (by lia) (by lia)
   rw[hx1.1]
   by_cases hless:w x<w (x-1)
   ·simp only[hless,decide_true,if_true]
    have key:∀p'':Nat→Nat,Dn w p'' x→(∀i,i<x→w (x-1)≤w (p'' i))→p'' x=x→∀i j,i<j→j<x+1→i<x+1-(0+1)→Lx w (p'' j) (p'' i):=by
     intro p'' hD hw hx i j hij hj hi
     rcases Nat.lt_or_ge j x with z|z
     ·exact hD i j hij z
     ·have:j=x:=by lia
      subst this
      rw[hx]
      exact .inl (Int.lt_of_lt_of_le hless (hw i (by lia)))
    have wl:∀i,i<x→w (x-1)≤w (p' i):=λi hi=>by
     by_cases c1:x-(neq+1)≤i
     ·have:=hb i c1 hi;rw[this.1,this.2];exact Int.le_refl _
     ·have:=hd i (x-1) (by lia) (by lia) (by lia)
      rw[hx1.1]at this
      unfold Lx at this;lia
    by_cases hneq:neq > 0
    ·rw[if_pos hneq]
     refine wpS_bind (wpS_reverse (wpS_pure ⟨0,_,rfl,(hB'.mir (i:=x-(neq+1)) (Nat.le_refl _) (Nat.le_of_lt hxn)).more (Nat.le_succ _),by lia,key _ (turned x neq p' hq hd hb) (λi hi=>?_) ?_,λi h1 h2=>?_⟩))
     ·unfold Mine.mir;split
      ·exact wl _ (by lia)
      ·exact wl _ hi
     ·unfold Mine.mir;rw[if_neg (by lia)];exact hB'.id_ x (Nat.le_refl _)
     ·have:i=x:=by lia
      subst this
      unfold Mine.mir;rw[if_neg (by lia)];exact⟨hB'.id_ i (Nat.le_refl _),rfl⟩
    ·rw[if_neg hneq]
     have:neq=0:=by lia
     subst this
     refine wpS_pure ⟨0,p',rfl,hB'.more (Nat.le_succ _),by lia,key p' (λi j hij hj=>hd i j hij hj (by lia)) wl (hB'.id_ x (Nat.le_refl _)),λi h1 h2=>?_⟩
     have:i=x:=by lia
     subst this
     exact⟨hB'.id_ i (Nat.le_refl _),rfl⟩
   ·simp only[hless,decide_false,Bool.false_eq_true,if_false]
    refine wpS_bind (wpS_ltP hf (Nat.le_of_lt hxn) hB' (by lia) hxn ?_)
    rw[hB'.id_ x (Nat.le_refl _),hx1.1]
    by_cases hlarger:w (x-1)<w x
    ·simp only[hlarger,decide_true,if_true]
     exact wpS_pure ⟨x,neq,p',rfl,hax,Nat.le_of_lt hxn,hB',hq,hd,hb⟩
    ·simp only[hlarger,decide_false,Bool.false_eq_true,if_false]
     have he:w x=w (x-1):=by lia
     refine wpS_pure ⟨neq+1,p',rfl,hB'.more (Nat.le_succ _),by lia,λi j hij hj hi=>?_,λi h1 h2=>?_⟩
     ·rcases Nat.lt_or_ge j x with z|z
      ·exact hd i j hij z (by lia)
      ·have:j=x:=by lia
       subst this
       rw[hB'.id_ j (Nat.le_refl _)]
       have a:=hd i (j-1) (by lia) (by lia) (by lia)
       have b:=hB'.low i (by lia)
       rw[hx1.1]at a
       unfold Lx at a ⊢;lia
     ·rw[Nat.add_sub_cancel]
      rcases Nat.lt_or_ge i x with z|z
      ·have:=hb i (by lia) z;exact⟨this.1,this.2.trans he.symm⟩
      ·have:i=x:=by lia
       subst this
       exact⟨hB'.id_ i (Nat.le_refl _),rfl⟩
 intro c st' y81;refine E37 y81 λx neq p' q9919 hx1 hx2 hB' hq hd hb=>?_;clear y81;subst q9919
 dsimp only
 by_cases hneq:neq > 0
 ·rw[if_pos hneq]
  exact wpS_bind (wpS_reverse (wpS_tailP hf (by lia) hx2 (hB'.mir (i:=x-(neq+1)) (Nat.le_refl _) hx2) (turned x neq p' hq hd hb) h))
 ·rw[if_neg hneq]
  have:neq=0:=by lia
  subst this
  exact wpS_tailP hf (by lia) hx2 hB' (λi j hij hj=>hd i j hij hj (by lia)) h
theorem wpS_countP{st:SortSt}{Q:Option Nat→SortSt→Prop}(hf:∀i,i<n→∃t q,f i=(.int (w i) t,q))(h1:1≤n)(hB:SP f n 1 (λi=>i) st)
 (h:∀x p' st',SP f n x p' st'→Up w p' x→1≤x→x≤n→Q (some x) st'):wpS (model prog W) A E s (countRun' 0 n) Q st:=by
 rw[countRun0_eq]
 refine wpS_bind (wpS_ascP hf (Nat.le_refl 1) h1 hB (λi j hij hj=>by lia) λm hm1 hm2 hBm hsm hor=>?_)
 dsimp only
 by_cases hnn:m=n
 ·rw[if_pos (by simpa using hnn)]
  exact wpS_pure (h m _ st hBm hsm hm1 hm2)
 ·rw[if_neg (by simpa using hnn)]
  have hlt:w m<w (m-1):=hor.resolve_left hnn
  by_cases hgt:m > 1
  ·rw[if_pos hgt]
   refine wpS_bind (wpS_ltP hf hm2 hBm (by lia) (by lia) ?_)
   by_cases hrose:w 0<w (m-1)
   ·simp only[hrose,decide_true,if_true]
    exact wpS_pure (h m _ st hBm hsm hm1 hm2)
   ·simp only[hrose,decide_false,Bool.false_eq_true,if_false]
    have le:∀i j,i≤j→j<m→w i≤w j:=λi j hij hj=>by
     rcases Nat.lt_or_ge i j with q|q
     ·have:Lx w i j:=hsm i j q hj
      unfold Lx at this;lia
     ·rw[Nat.le_antisymm hij q];exact Int.le_refl _
    have all:∀i,i<m→w i=w (m-1):=λi hi=>by
     have a:=le 0 i (by lia) hi
     have b:=le i (m-1) (by lia) (by lia)
     lia
    refine wpS_bind (wpS_reverse (wpS_descP hf (by lia) ((hBm.mir (i:=0) (Nat.le_refl _) hm2).more (Nat.le_succ _)) (λi j hij hj=>?_) ?_ h))
    ·unfold Mine.mir
     rw[if_pos (c:=_∧i<m) (by lia)]
     split
     ·have a:=all (0+m-1-i) (by lia)
      have b:=all (0+m-1-j) (by lia)
      show Lx w (0+m-1-j) (0+m-1-i)
      unfold Lx;lia
     ·have:j=m:=by lia
      subst this
      have a:=all (0+j-1-i) (by lia)
      show Lx w j (0+j-1-i)
      unfold Lx;lia
    ·unfold Mine.mir;rw[if_neg (by lia)]
  ·rw[if_neg hgt]
   have:m=1:=by lia
   subst this
   refine wpS_descP hf (by lia) (hBm.more (Nat.le_succ _)) (λi j hij hj=>?_) rfl h
   have a:i=0:=by lia
   have b:j=1:=by lia
   subst a;subst b
   exact .inl hlt
theorem wpS_runsP{st:SortSt}{Q:Unit→SortSt→Prop}(hf:∀i,i<n→∃t q,f i=(.int (w i) t,q))(hB:SP f n 1 (λi=>i) st)(h2:2≤n)(h64:n<64)
 (h:∀st' p,(∀i,i<n→(arrOf st')[i]? =some (f (p i))∧p i<n)→(arrOf st').size=n→failedOf st'=none→Up w p n→Q () st'):wpS (model prog W) A E s sortRuns' Q st:=by
 rw[sortRuns'_eq]
 refine wpS_bind (wpS_get ?_)
 dsimp only
 have hmr:minRun' n n 0=n:=by
  obtain⟨g,hg⟩:∃g,n=g+1:=⟨n-1,by lia⟩
  have:minRun' (g+1) n 0=n:=by rw[minRun'_succ,if_pos h64];rfl
  rwa [←hg]at this
 rw[hB.size,hmr]
 refine wpS_bind (wpS_mono (wpS_forRange
  (I:=λx c st'=>(x=0∧c=(none,0)∧SP f n 1 (λi=>i) st')∨(1≤x∧c=(none,n)∧∃st'' p,SP f n n p st''∧Up w p n∧st'=setPending st'' #[(0,n,0)]))
  (Q:=λc st'=>c=(none,n)∧∃st'' p,SP f n n p st''∧Up w p n∧st'=setPending st'' #[(0,n,0)]) ?step ?fin (.inl ⟨rfl,rfl,hB⟩)) ?post)
 case fin=>
  rintro c st' (⟨hx,_,_⟩|⟨_,hc,hD⟩)
  ·lia
  ·exact⟨hc,hD⟩
 case step=>
  rintro x c st' _ hx (⟨rfl,rfl,hB'⟩|⟨hx1,rfl,hD⟩)
  ·dsimp only
   rw[if_neg (by lia)]
   simp only[Nat.sub_zero,Nat.min_self,Nat.zero_add]
   have pnd:∀ {st3:SortSt},pendingOf st3= #[]→(pendingOf st3).push (0,n,0)= #[(0,n,0)]:=λe=>by rw[e];rfl
   refine wpS_bind (wpS_countP hf (by lia) hB' λm p2 st2 hB2 hs2 hm1 hm2=>?_)
   dsimp only
   by_cases hlt:m<n
   ·rw[if_pos hlt]
    refine wpS_bind (wpS_lift (wpAny_rule ⟨rfl,?_⟩))
    refine wpS_bind (wpS_binP hf hm2 hm1 hB2 hs2 λst3 p3 hB3 hs3=>?_)
    simp only[Bool.not_true,Bool.false_eq_true,if_false]
    refine wpS_bind (wpS_get ?_)
    have hb:(pendingOf st3).back? =none:=by rw[hB3.pend];rfl
    rw[hb]
    dsimp only
    exact wpS_bind (wpS_modify (wpS_pure (.inr ⟨by lia,rfl,st3,p3,hB3,hs3,by rw[pnd hB3.pend]⟩)))
   ·rw[if_neg hlt]
    have hm:m=n:=by lia
    clear hf hB h2 h64 h hmr hx hB' hm1 hm2 hlt;subst hm
    refine wpS_bind (wpS_get ?_)
    have hb:(pendingOf st2).back? =none:=by rw[hB2.pend];rfl
    rw[hb]
    dsimp only
    exact wpS_bind (wpS_modify (wpS_pure (.inr ⟨by lia,rfl,st2,p2,hB2,hs2,by rw[pnd hB2.pend]⟩)))
  ·dsimp only
   rw[if_pos (Nat.le_refl _)]
   exact wpS_pure ⟨rfl,hD⟩
 case post=>
  intro c st' y81;refine E02 y81 λq9647 y9648=>?_;clear y81;subst q9647;refine E23 y9648 λst2 p hB2 hs2 q9649=>?_;clear y9648;subst q9649
  dsimp only
  refine wpS_bind (wpS_mono (wpS_forRange (I:=λ_ c st''=>st''=setPending st2 #[(0,n,0)]∧c=(none,())) (Q:=λc st''=>st''=setPending st2 #[(0,n,0)]∧c=(none,())) ?_ (λ_ _ hh=>hh) ⟨rfl,rfl⟩) ?_)
  ·intro x c st'' _ _ y81;refine E02 y81 λq9668 q9669=>?_;clear y81;subst q9668;subst q9669
   refine wpS_bind (wpS_get ?_)
   rw[if_pos (show(pendingOf (setPending st2 #[(0,n,0)])).size≤1 from Nat.le_refl 1)]
   exact wpS_pure ⟨rfl,rfl⟩
  ·intro c st'' y81;refine E02 y81 λq9696 q9697=>?_;clear y81;subst q9696;subst q9697
   exact wpS_pure (h _ p (λi hi=>⟨hB2.at_ i hi,hB2.low i hi⟩) hB2.size hB2.failed hs2)
end
noncomputable def insW(w:Nat→Int)(x:Nat):List Nat→List Nat
 | []=>[x]
 |q::r=>match decide (w x<w q) with
  |true=>x::q::r
  |false=>q::insW w x r
noncomputable def srtW(w:Nat→Int):List Nat→List Nat→List Nat
 |acc,[]=>acc
 |acc,x::r=>srtW w (insW w x acc) r
theorem insW_perm{w:Nat→Int}{x:Nat}:∀l:List Nat,(insW w x l).Perm (x::l)
 | []=>.refl _
 |q::r=>by
  unfold insW
  cases decide (w x<w q) with
  |true=>exact .refl _
  |false=>exact((insW_perm r).cons q).trans (.swap _ _ _)
theorem insW_up{w:Nat→Int}{x:Nat}:∀ {l:List Nat},l.Pairwise (Lx w)→(∀q∈l,q<x)→(insW w x l).Pairwise (Lx w)
 | [],_,_=>List.pairwise_singleton ..
 |q::r,h,hl=>by
  unfold insW
  obtain⟨h1,h2⟩:=List.pairwise_cons.mp h
  cases e:decide (w x<w q) with
  |true=>
   have e:=of_decide_eq_true e
   refine List.pairwise_cons.mpr ⟨λy hy=>?_,h⟩
   rcases List.mem_cons.mp hy with rfl|hy
   ·exact .inl e
   ·rcases h1 y hy with z|z
    ·exact .inl (Int.lt_trans e z)
    ·exact .inl (z.1▸e)
  |false=>
   have e:=of_decide_eq_false e
   refine List.pairwise_cons.mpr ⟨λy hy=>?_,insW_up h2 λy hy=>hl y (List.mem_cons_of_mem _ hy)⟩
   rcases List.mem_cons.mp ((insW_perm r).mem_iff.mp hy)with rfl|hy
   ·have:=hl q (List.mem_cons_self ..)
    rcases Int.lt_or_eq_of_le (Int.not_lt.mp e)with z|z
    ·exact .inl z
    ·exact .inr ⟨z,this⟩
   ·exact h1 y hy
theorem srtW_spec{w:Nat→Int}:∀(m k:Nat) {l:List Nat},l.Pairwise (Lx w)→l.Perm (List.range k)→(srtW w l (List.range' k m)).Pairwise (Lx w)∧(srtW w l (List.range' k m)).Perm (List.range (k+m))
 |0,k,l,h,hp=>⟨h,hp⟩
 |m+1,k,l,h,hp=>by
  rw[List.range'_succ]
  unfold srtW
  have:=srtW_spec m (k+1) (insW_up (x:=k) h λq hq=>List.mem_range.mp (hp.mem_iff.mp hq)) (((insW_perm l).trans (hp.cons k)).trans (by rw[List.range_succ];exact(List.perm_append_singleton k _).symm))
  rwa [show k+1+m=k+(m+1) by lia]at this
theorem Lx.irr{w:Nat→Int}{a b:Nat}(h:Lx w a b)(h':Lx w b a):False:=by
 rcases h with h|h <;> rcases h' with h'|h'
 ·exact Int.lt_asymm h h'
 ·rw[h'.1]at h;exact Int.lt_irrefl _ h
 ·rw[h.1]at h';exact Int.lt_irrefl _ h'
 ·exact Nat.lt_asymm h.2 h'.2
theorem up_list{w:Nat→Int}{n:Nat}{p:Nat→Nat}(hp:∀i,i<n→p i<n)(hu:Up w p n):(List.range n).map p=srtW w [] (List.range n):=by
 have pw:((List.range n).map p).Pairwise (Lx w):=by
  rw[List.pairwise_map,List.pairwise_iff_getElem]
  intro i j hi hj hij
  rw[List.getElem_range,List.getElem_range]
  rw[List.length_range]at hj
  exact hu i j hij hj
 have nd:((List.range n).map p).Nodup:=pw.imp λh e=>by subst e;exact Lx.irr h h
 have sub:(List.range n).map p ⊆ List.range n:=λx hx=>by
  refine E12 (List.mem_map.mp hx) λi hi q9144=>?_;subst q9144
  exact List.mem_range.mpr (hp i (List.mem_range.mp hi))
 have pm:((List.range n).map p).Perm (List.range n):=by
  refine(List.perm_ext_iff_of_nodup nd List.nodup_range).mpr λa=>⟨λh=>sub h,λh=>?_⟩
  cases Classical.em (a∈(List.range n).map p) with
  |inl q=>exact q
  |inr q=>
   have s2:(List.range n).map p ⊆ (List.range n).erase a:=λx hx=>(List.mem_erase_of_ne (λe=>by subst e;exact q hx)).mpr (sub hx)
   have l1:=nd.length_le_of_subset s2
   rw[List.length_map,List.length_erase_of_mem h,List.length_range]at l1
   have:=List.mem_range.mp h
   omega
 refine E02 (srtW_spec (w:=w) n 0 (l:=[]) List.Pairwise.nil (.refl _)) λs1 s2=>?_
 rw[←List.range_eq_range']at s1 s2
 rw[Nat.zero_add]at s2
 exact List.Perm.eq_of_pairwise (λa b _ _ h h'=>(Lx.irr h h').elim) pw s1 (pm.trans s2.symm)
noncomputable def insK(p:Int×V):List (Int×V)→List (Int×V)
 | []=>[p]
 |q::r=>match decide (p.1<q.1) with
  |true=>p::q::r
  |false=>q::insK p r
noncomputable def srtK:List (Int×V)→List (Int×V)→List (Int×V)
 |acc,[]=>acc
 |acc,p::r=>srtK (insK p acc) r
noncomputable def kyV:V→Option (Int×V)
 |.tup (.int w::[r])=>some (w,.tup [.int w,r])
 |_=>none
noncomputable def keyed:List V→Option (List (Int×V))
 | []=>some []
 |v::vs=>match kyV v with
  |some p=>match keyed vs with
   |some l=>some (p::l)
   |none=>none
  |none=>none
noncomputable def sortK(SR:List (Nat×AO))(v:V):M V:=λst=>match lsV SR v st with
 |some xs=>match keyed xs with
  |some ks=>match Nat.blt ks.length 64 with
   |true=>some (.ref st.n,st.add (.list ((srtK [] ks).map (·.2))))
   |false=>none
  |none=>none
 |none=>none
noncomputable def sortKE(SR:List (Nat×AO))(f:Loc→M V):Loc→M V:=λl=>do
 let v ←f l
 sortK SR v
theorem sortK_inv{SR:List (Nat×AO)}{v:V}{st:St}{r:V×St}(e:sortK SR v st=some r):∃xs ks,lsV SR v st=some xs∧keyed xs=some ks∧ks.length<64∧r=(.ref st.n,st.add (.list ((srtK [] ks).map (·.2)))):=by
 unfold sortK at e
 cases h1:lsV SR v st with
 |none=>rw[h1]at e;exact nos e
 |some xs=>
  rw[h1]at e
  dsimp only at e
  cases h2:keyed xs with
  |none=>rw[h2]at e;exact nos e
  |some ks=>
   rw[h2]at e
   dsimp only at e
   cases h3:Nat.blt ks.length 64 with
   |false=>rw[h3]at e;exact nos e
   |true=>rw[h3]at e;obtain rfl:=sin e;exact I24 xs ks rfl h2 (Nat.le_of_ble_eq_true h3) rfl
theorem kyV_inv{v:V}{p:Int×V}(h:kyV v=some p):p.2=v∧∃r,p.2=.tup [.int p.1,r]:=by
 cases v with
 |tup l=>cases l with
  |nil=>exact nos h
  |cons a l=>cases a with
   |int w=>cases l with
    |nil=>exact nos h
    |cons r l=>cases l with
     |nil=>rw[←sin h];exact⟨rfl,r,rfl⟩
     |cons _ _=>exact nos h
   |_=>exact nos h
 |_=>exact nos h
theorem keyed_spec{xs:List V}{ks:List (Int×V)}(h:keyed xs=some ks):ks.map (·.2)=xs∧∀p∈ks,∃r,p.2=.tup [.int p.1,r]:=by
 induction xs generalizing ks with
 |nil=>rw[←sin h];exact⟨rfl,λp hp=>absurd hp List.not_mem_nil⟩
 |cons v vs ih=>
  have h':(match kyV v with|some p=>(match keyed vs with|some l=>some (p::l)|none=>none)|none=>none)=some ks:=h
  clear h
  refine bc λhno=>?_;cases q1:kyV v with
  |none=>rw[q1]at h';exact nos h'
  |some p=>
   rw[q1]at h'
   dsimp only at h'
   cases q:keyed vs with
   |none=>rw[q]at h';exact nos h'
   |some l=>
    rw[q]at h';refine hno ?_;rw[←sin h']
    refine E02 (kyV_inv q1) λa b=>E02 (ih q) λh1 h2=>⟨by rw[List.map_cons,h1,a],λz hz=>(List.mem_cons.mp hz).elim (λe=>e▸b) (h2 z)⟩
theorem insK_map{F:Nat→Int×V}{x:Nat}:∀l:List Nat,insK (F x) (l.map F)=(insW (λi=>(F i).1) x l).map F
 | []=>rfl
 |q::r=>by
  rw[List.map_cons]
  unfold insK insW
  cases decide ((F x).1<(F q).1) with
  |true=>rfl
  |false=>rw[List.map_cons,insK_map r]
theorem srtK_map{F:Nat→Int×V}:∀(r l:List Nat),srtK (l.map F) (r.map F)=(srtW (λi=>(F i).1) l r).map F
 | [],l=>rfl
 |x::r,l=>by
  rw[List.map_cons]
  unfold srtK srtW
  rw[insK_map,srtK_map r]
theorem list_as{α:Type}(xs:List α)(d:α):xs=(List.range xs.length).map λi=>xs.getD i d:=by
 apply List.ext_getElem
 ·simp
 ·intro i h1 h2
  simp[List.getElem_map,h1]
theorem srtK_eq{ks:List (Int×V)}{p:Nat→Nat}(hp:∀i,i<ks.length→p i<ks.length)(hu:Up (λi=>(ks.getD i (0,.none)).1) p ks.length):
 (srtK [] ks).map (·.2)=(List.range ks.length).map λi=>(ks.getD (p i) (0,.none)).2:=by
 have e:=srtK_map (F:=λi=>ks.getD i (0,.none)) (List.range ks.length) []
 rw[←list_as ks (0,.none),List.map_nil]at e
 rw[e,←up_list hp hu,List.map_map,List.map_map]
 rfl
section
variable{prog:Program}{w:World}{c:Cfg prog w}
section
variable{ρ ρ' ρ'':Nat→Addr}{st:St}{h0 h1 h2:Heap}{a:Addr}
theorem off_of(R0:RelH c ρ st h0)(N:Nx c NoA ρ st h0 ρ' st h1)(ha:h0.get? a=none):∀k,Has k st.H∨Has k st.F→ρ' k≠a:=by
 intro k hk z
 rw[N.tr.ext k (R0.lt k hk)]at z
 rcases hk with⟨o,e⟩|⟨o,e⟩
 ·refine E11 ((R0.obj k o e).ex.at) λob e'=>?_;rw[z]at e';exact nn ha e'
 ·refine E11 ((R0.fro k o e).ex.at) λob e'=>?_;rw[z]at e';exact nn ha e'
theorem side_step(C:c.Ok)(R0:RelH c ρ st h0)(R:RelH c ρ' st h1)(N:Nx c NoA ρ st h0 ρ' st h1)(hs:Heap.SameBut a h1 h2)(ha:h0.get? a=none)(ho:Mov h1 a)(ho':∃o',h2.get? a=some o'):
 RelH c ρ' st h2∧Nx c NoA ρ st h0 ρ' st h2:=
 ⟨R.aside C hs (R0.fresh ha) ho (off_of R0 N ha),N.trans R0 R (Nx.aside C R hs (R0.fresh ha) ho ho') λb q=>.inr (by rw[show b=a from q];exact ha)⟩
theorem keep_step(C:c.Ok)(R0:RelH c ρ st h0)(R:RelH c ρ' st h1)(N:Nx c NoA ρ st h0 ρ' st h1)(k:∀b o,h1.get? b=some o→h2.get? b=some o):RelH c ρ' st h2∧Nx c NoA ρ st h0 ρ' st h2:=
 ⟨R.keep C k,N.trans R0 R (Nx.keep (fp:=NoA) k) λ_ q=>q.elim⟩
theorem un_step(C:c.Ok)(R0:RelH c ρ st h0)(N:Nx c NoA ρ st h0 ρ' st h1)(N2:Nx c NoA ρ' st h1 ρ'' st h2)(ha:h0.get? a=none){o:Obj}(e:h1.get? a=some o):h2.get? a=some o:=
 N2.un a o e (λk hk=>off_of R0 N ha k (.inl hk)) (λq=>q) (RelH.ntb C (R0.fresh ha))
theorem mov_list{h:Heap}{xs:Array Value}{n:Nat}(e:h.get? a=some (seqObj "list" xs n)):Mov h a:=⟨_,e,.inl (by simp),.inl (by simp)⟩
end
noncomputable def KeyFn(c:Cfg prog w)(d:Nat)(ρ:Nat→Addr)(st:St)(h0:Heap)(f:Value):Prop:=
 ∀(A:Around) (ρ':Nat→Addr) (s:Shared) (k:Int) (r:V) (v':Value),AOk d A→RelH c ρ' st s.heap→Nx c NoA ρ st h0 ρ' st s.heap→VR st.n ρ' s.heap (.tup [.int k,r]) v'→
  wpAny (model prog w) A (call f [v']) (λx s'=>∃ρ'' h'' tk t,s'={s with heap:=h'',toks:=tk}∧x=.int k t∧RelH c ρ'' st h''∧Nx c NoA ρ' st s.heap ρ'' st h'') (λ_ _=>False) s
section
variable{A:Around}{E:Value→Shared→Prop}{s:Shared}{d:Nat}{ρ:Nat→Addr}{st:St}{a kS:Addr}{vs:List Value}{ks:List (Int×V)}{e1:Nat}{P:PySem.Fin→Shared→Prop}
noncomputable def SrtEnd(c:Cfg prog w)(ρ:Nat→Addr)(st:St)(h0:Heap)(a:Addr)(vs:List Value)(ks:List (Int×V))(s:Shared)(P:PySem.Fin→Shared→Prop):Prop:=
 ∀ρ' h' tk out n p,RelH c ρ' st h'→Nx c NoA ρ st h0 ρ' st h'→h'.get? a=some (seqObj "list" out n)→(∀i,i<ks.length→p i<ks.length)→Up (λi=>(ks.getD i (0,.none)).1) p ks.length→
  out.toList=(List.range ks.length).map (λi=>vs.getD (p i) .none)→P (.done (.ret .none)) {s with heap:=h',toks:=tk}
theorem srt_tail(C:c.Ok){ρ1:Nat→Addr}{h0 h1:Heap}{tk1:Nat}{sst:SortSt}{keys:Array Value}{e:Nat}{p:Nat→Nat}(R0:RelH c ρ st h0)(R:RelH c ρ1 st h1)(N:Nx c NoA ρ st h0 ρ1 st h1)(hka:kS≠a)(h0a:h0.get? a=none)(h0k:h0.get? kS=none)
 (hk:h1.get? kS=some (seqObj "list" keys e)) (ha:h1.get? a=some (seqObj "list" #[] e1)) (hn:keys.size<64) (h64:ks.length<64) (hsz:(arrOf sst).size=ks.length) (hfl:failedOf sst=none)
 (hp:∀i,i<ks.length→p i<ks.length) (hu:Up (λi=>(ks.getD i (0,.none)).1) p ks.length) (hat:∀i,i<ks.length→∃x,(arrOf sst)[i]? =some (x,vs.getD (p i) .none))
 (h:SrtEnd c ρ st h0 a vs ks s P):wpAny (model prog w) A (ksk_tail a false e1 (.ref kS) sst) P E {s with heap:=h1,toks:=tk1}:=by
 have s1:=Heap.SameBut.update h1 kS (Obj.mapSeq λ_=>(#[]:Array Value))
 have na1:(h1.update kS (Obj.mapSeq λ_=>(#[]:Array Value))).get? a=some (seqObj "list" #[] e1):=(s1.2 a hka.symm).trans ha
 obtain⟨c1,hc1⟩:∃c1,(h1.update kS (Obj.mapSeq λ_=>(#[]:Array Value))).get? kS=some (seqObj "list" #[] c1):=⟨_,get?_update_seq hk λ_=> #[]⟩
 refine E02 (side_step C R0 R N s1 h0k (mov_list hk) ⟨_,hc1⟩) λR1 N1=>?_
 unfold ksk_tail
 simp only[Bool.false_eq_true,if_false]
 have hout:∀out:Array Value,out=(arrOf sst).map (·.2)→out.size=ks.length∧out.toList=(List.range ks.length).map (λi=>vs.getD (p i) .none):=by
  intro out q81;subst q81
  refine⟨by rw[Array.size_map,hsz],?_⟩
  rw[Array.toList_map]
  apply List.ext_getElem?
  intro i
  rw[List.getElem?_map,List.getElem?_map,Array.getElem?_toList]
  by_cases q:i<ks.length
  ·refine E11 (hat i q) λx e=>?_
   rw[e,List.getElem?_range q];rfl
  ·rw[Array.getElem?_eq_none (by lia),List.getElem?_eq_none (by rw[List.length_range];lia)];rfl
 generalize eo:(arrOf sst).map (·.2)=out
 refine bc λhno=>?_;refine E02 (hout out eo.symm) λho1 ho2=>?_
 have s2:=Heap.SameBut.update (h1.update kS (Obj.mapSeq λ_=>(#[]:Array Value))) a (Obj.mapSeq λ_=>out)
 obtain⟨c2,hc2⟩:∃c2,((h1.update kS (Obj.mapSeq λ_=>(#[]:Array Value))).update a (Obj.mapSeq λ_=>out)).get? a=some (seqObj "list" out c2):=⟨_,get?_update_seq na1 λ_=>out⟩
 refine E02 (side_step C R0 R1 N1 s2 h0a (mov_list na1) ⟨_,hc2⟩) λR2 N2=>?_
 refine hno ?_;refine wpAny_bind (listUpdate_at hk rfl ?_ (by rw[sizeLine_eq];lia) (Nat.zero_le _))
 refine wpAny_bind (wpAny_letGo ?_)
 refine wpAny_bind (seqEpoch_at na1 rfl ?_)
 refine wpAny_bind (listUpdate_at na1 rfl ?_ (Nat.zero_le _) (by rw[ho1,sizeLine_eq];lia))
 rw[hfl]
 simp only[bne_self_eq_false,Bool.false_eq_true,if_false]
 exact wpAny_pure (h _ _ _ _ c2 p R2 N2 hc2 hp hu ho2)
theorem srt_end(C:c.Ok){ρ1:Nat→Addr}{h0 h1:Heap}{tk1:Nat}{keys:Array Value}{e:Nat}(R0:RelH c ρ st h0)(R:RelH c ρ1 st h1)(N:Nx c NoA ρ st h0 ρ1 st h1)(hka:kS≠a)(h0a:h0.get? a=none)(h0k:h0.get? kS=none)
 (hk:h1.get? kS=some (seqObj "list" keys e)) (ha:h1.get? a=some (seqObj "list" #[] e1)) (hI:IntsAre keys.toList (ks.map (·.1))) (hlen:vs.length=ks.length) (h64:ks.length<64)
 (h:SrtEnd c ρ st h0 a vs ks s P):wpAny (model prog w) A (ksk_end a false vs.toArray e1 (.ref kS) keys) P E {s with heap:=h1,toks:=tk1}:=by
 have hks:keys.size=ks.length:=by
  have:=hI.length
  rw[Array.length_toList,List.length_map]at this
  exact this
 have hzs:(keys.zip vs.toArray).size=ks.length:=by rw[Array.size_zip,hks,List.size_toArray,hlen,Nat.min_self]
 have hz:∀i,i<ks.length→∃t,(keys.zip vs.toArray)[i]? =some (.int (ks.getD i (0,.none)).1 t,vs.getD i .none):=λi hi=>by
  refine E11 (hI.get i (ks.getD i (0,.none)).1 (by rw[List.getElem?_map,List.getD_eq_getElem?_getD,List.getElem?_eq_getElem hi];rfl)) λt ht=>?_
  refine I11 t ?_
  rw[Array.getElem?_toList]at ht
  have hv:i<vs.length:=by rw[hlen];exact hi
  rw[List.getD_eq_getElem?_getD (l:=vs),List.getElem?_eq_getElem hv]
  exact Array.getElem?_zip_eq_some.mpr ⟨ht,by rw[List.getElem?_toArray];exact List.getElem?_eq_getElem hv⟩
 unfold ksk_end
 try dsimp only
 simp only[Bool.false_eq_true,if_false]
 rw[List.size_toArray,hlen]
 clear hlen;by_cases h2:ks.length<2
 ·rw[if_pos h2,if_pos h2]
  refine wpAny_bind (wpAny_pure ?_)
  rw[StateT.run_pure]
  refine wpAny_bind (wpAny_pure ?_)
  try dsimp only
  refine srt_tail C (p:=λi=>i) R0 R N hka h0a h0k hk ha (by lia) h64 hzs rfl (λi hi=>hi) (λi j hij hj=>by lia) (λi hi=>?_) h
  refine E11 (hz i hi) λt e=>?_
  exact I11 _ e
 ·rw[if_neg h2,if_neg h2]
  rw[ksk_kind hI (by rw[hks];lia)]
  refine wpAny_bind (wpAny_pure ?_)
  refine wpAny_bind (wpAny_mono (wpS_runsP (n:=ks.length) (w:=λi=>(ks.getD i (0,.none)).1) (f:=λi=>((keys.zip vs.toArray)[i]?).getD (if i<ks.length then(.none,.none)else(.int (ks.getD i (0,.none)).1 default,.none))) (st:=SortSt.mk' oneType' (keys.zip vs.toArray) #[] 7 none)
   (Q:=λ_ st'=>failedOf st'=none∧(arrOf st').size=ks.length∧∃p,(∀i,i<ks.length→p i<ks.length)∧Up (λi=>(ks.getD i (0,.none)).1) p ks.length∧∀i,i<ks.length→∃x,(arrOf st')[i]? =some (x,vs.getD (p i) .none))
   (λi hi=>?_) ⟨hzs,λi hi=>?_,rfl,rfl,rfl,λi hi=>hi,λi _=>rfl⟩ (by lia) h64 λst' p hp hs hf hu=>⟨hf,hs,p,λi hi=>(hp i hi).2,hu,λi hi=>?_⟩) ?_ λ_ _ e=>e)
  ·refine E11 (hz i hi) λt e=>?_
   rw[e];exact I21 t _ rfl
  ·refine E11 (hz i hi) λt e=>?_
   show(keys.zip vs.toArray)[i]? = _
   rw[e];rfl
  ·refine E11 (hz (p i) (hp i hi).2) λt e=>?_
   rw[(hp i hi).1,e];exact I11 _ rfl
  ·intro y81 s' y82;obtain⟨⟨⟩,st'⟩:=y81;refine E04 y82 λq9394 hf hs y9395=>?_;clear y82;subst q9394;refine E13 y9395 λp h1' h2' h3'=>?_;clear y9395
   try dsimp only
   exact srt_tail C R0 R N hka h0a h0k hk ha (by lia) h64 hs hf h1' h2' h3' h
theorem srt_rest(C:c.Ok){f:Value}{ρ1:Nat→Addr}{h0 h1:Heap}{tk1:Nat}{xs:List V}(hA:AOk d A)(R0:RelH c ρ st h0)(R:RelH c ρ1 st h1)(N:Nx c NoA ρ st h0 ρ1 st h1)(hka:kS≠a)(h0a:h0.get? a=none)(h0k:h0.get? kS=none)
 (hk:h1.get? kS=some (seqObj "list" #[] 0)) (ha:h1.get? a=some (seqObj "list" #[] e1)) (hv:VRs st.n ρ h0 (ks.map (·.2)) vs) (hks:∀p∈ks,∃r,p.2=.tup [.int p.1,r]) (h64:ks.length<64) (KF:KeyFn c d ρ st h0 f)
 (h:SrtEnd c ρ st h0 a vs ks s P):wpAny (model prog w) A (ksk_rest a f false vs.toArray e1 (.ref kS)) P E {s with heap:=h1,toks:=tk1}:=by
 have hlen:vs.length=ks.length:=by rw[hv.length,List.length_map]
 unfold ksk_rest
 refine wpAny_bind (wpAny_rule ?_)
 first
  |rw[List.forIn_toArray]
  |(rw[←Array.forIn_toList];simp only[List.toList_toArray])
  |rw[←Array.forIn_toList]
 refine wpAny_bind (ksk_fold (λi s'=>∃ρ' h' tk kA e,s'={s with heap:=h',toks:=tk}∧RelH c ρ' st h'∧Nx c NoA ρ st h0 ρ' st h'∧h'.get? kS=some (seqObj "list" kA e)∧h'.get? a=some (seqObj "list" #[] e1)∧IntsAre kA.toList ((ks.map (·.1)).take i)) vs 0 _
  ⟨ρ1,h1,tk1,#[],0,rfl,R,N,hk,ha,by simpa using IntsAre.nil⟩ ?step ?done)
 case step=>
  intro j x s' hx y81;refine E56 y81 λρ' h' tk kA e q9604 R' N' hk' ha' hI=>?_;clear y81;subst q9604
  simp only[Nat.zero_add]at hI ⊢
  have hj:j<ks.length:=by rw[←hlen];exact(List.getElem?_eq_some_iff.mp hx).1
  refine bc λhno=>?_;refine E11 (hks ks[j] (List.getElem_mem hj)) λr hr=>?_
  refine E12 (hv.get (i:=j) (v:=ks[j].2) (by rw[List.getElem?_map,List.getElem?_eq_getElem hj];rfl)) λx' hx' rx=>?_
  obtain rfl:=oin hx hx'
  rw[hr]at rx
  have hz:kA.size≤ks.length:=by
   have:=hI.length
   rw[Array.length_toList,List.length_take,List.length_map]at this
   lia
  refine hno ?_;refine wpAny_bind (wpAny_attempt (wpAny_mono (KF A ρ' {s with heap:=h',toks:=tk} ks[j].1 r x hA R' N' (rx.tr N'.tr)) (λv s'' he=>?_) λ_ _ hF=>hF.elim))
  refine E44 he λρ2 h2 tk2 t2 q9688 q9689 R2 N2=>?_;clear he;subst q9688;subst q9689
  try dsimp only
  have nk:=un_step C R0 N' N2 h0k hk'
  have na:=un_step C R0 N' N2 h0a ha'
  have s1:=Heap.SameBut.update h2 kS (Obj.mapSeq (·.push (.int ks[j].1 t2)))
  obtain⟨c2,hc2⟩:∃c2,(h2.update kS (Obj.mapSeq (·.push (.int ks[j].1 t2)))).get? kS=some (seqObj "list" (kA.push (.int ks[j].1 t2)) c2):=⟨_,get?_update_seq nk (·.push (.int ks[j].1 t2))⟩
  have ek:(ks.map (·.1)).take (j+1)=(ks.map (·.1)).take j++[ks[j].1]:=by rw[List.take_add_one,List.getElem?_map,List.getElem?_eq_getElem hj];rfl
  have ea:(kA.push (Value.int ks[j].1 t2)).toList=kA.toList++[Value.int ks[j].1 t2]:=by simp
  refine E02 (side_step C R0 R2 (N'.trans R0 R' N2 λ_ q=>q.elim) s1 h0k (mov_list nk) ⟨_,hc2⟩) λR3 N3=>?_
  refine wpAny_bind (listUpdate_at nk rfl ?_ (by rw[sizeLine_eq];lia) (Nat.le_trans (Nat.le_of_eq (Array.size_push ..)) (by rw[sizeLine_eq];lia)))
  exact wpAny_pure ⟨rfl,ρ2,_,_,kA.push (.int ks[j].1 t2),c2,rfl,R3,N3,hc2,(s1.2 a hka.symm).trans na,by rw[ea,ek];exact ksk_snoc hI⟩
 case done=>
  intro s' y81;refine E56 y81 λρ' h' tk kA e q9772 R' N' hk' ha' hI=>?_;clear y81;subst q9772
  have hI':IntsAre kA.toList (ks.map (·.1)):=by
   have e3:(ks.map (·.1)).take (0+vs.length)=ks.map (·.1):=List.take_of_length_le (by rw[List.length_map];lia)
   rw[e3]at hI
   exact hI
  try dsimp only
  refine wpAny_bind (listItems_at hk' rfl ?_)
  exact srt_end C R0 R' N' hka h0a h0k hk' ha' hI' hlen h64 h
theorem srt_sort(C:c.Ok){f:Value}{h0 h1:Heap}{n:Nat}(hA:AOk d A)(R0:RelH c ρ st h0)(R:RelH c ρ st h1)(N:Nx c NoA ρ st h0 ρ st h1)(h0a:h0.get? a=none)(ha:h1.get? a=some (seqObj "list" vs.toArray n))
 (hv:VRs st.n ρ h0 (ks.map (·.2)) vs) (hks:∀p∈ks,∃r,p.2=.tup [.int p.1,r]) (h64:ks.length<64) (KF:KeyFn c d ρ st h0 f)
 (h:SrtEnd c ρ st h0 a vs ks s P):wpAny (model prog w) A (ksk_tree a f false) P E {s with heap:=h1}:=by
 have hlen:vs.length=ks.length:=by rw[hv.length,List.length_map]
 have s1:=Heap.SameBut.update h1 a (Obj.mapSeq λ_=>(#[]:Array Value))
 refine bc λhno=>?_;obtain⟨e1,ho1⟩:∃e1,(h1.update a (Obj.mapSeq λ_=>(#[]:Array Value))).get? a=some (seqObj "list" #[] e1):=⟨_,get?_update_seq ha λ_=> #[]⟩
 refine E02 (side_step C R0 R N s1 h0a (mov_list ha) ⟨_,ho1⟩) λR1 N1=>?_
 have k1:∀(h:Heap) (oT:Obj),∀b o,h.get? b=some o→(h.push oT).get? b=some o:=λh oT b o e=>Heap.get?_push_of_some _ e
 refine E02 (keep_step C R0 R1 N1 (k1 _ (seqObj "tuple" vs.toArray 0))) λR2 N2=>?_
 refine E02 (keep_step C R0 R2 N2 (k1 _ (seqObj "list" #[] 0))) λR3 N3=>?_
 have hkS:((h1.update a (Obj.mapSeq λ_=>(#[]:Array Value))).push (seqObj "tuple" vs.toArray 0)).objs.size=h1.objs.size+1:=by rw[size_push',Heap.size_update]
 have ha':a<h1.objs.size:=Heap.lt_size ha
 have h0k:h0.get? ((h1.update a (Obj.mapSeq λ_=>(#[]:Array Value))).push (seqObj "tuple" vs.toArray 0)).objs.size=none:=by
  cases e:h0.get? ((h1.update a (Obj.mapSeq λ_=>(#[]:Array Value))).push (seqObj "tuple" vs.toArray 0)).objs.size with
  |none=>rfl
  |some o=>refine E11 (N2.th _ _ e) λo' e'=>?_;exact absurd (Heap.lt_size e') (Nat.lt_irrefl _)
 refine hno ?_;unfold ksk_tree
 refine wpAny_bind (listItems_at ha rfl ?_)
 refine wpAny_bind (listUpdate_at ha rfl ?_ (by rw[List.size_toArray,sizeLine_eq];lia) (Nat.zero_le _))
 refine wpAny_bind (seqEpoch_at ho1 rfl ?_)
 refine wpAny_bind (wpAny_newTuple ?_ (by show vs.length≤_;rw[sizeLine_eq];lia))
 refine wpAny_bind (wpAny_newList ?_ (Nat.zero_le _))
 refine wpAny_holding ?_
 exact srt_rest C (h1:=((h1.update a (Obj.mapSeq λ_=>(#[]:Array Value))).push (seqObj "tuple" vs.toArray 0)).push (seqObj "list" #[] 0)) (kS:=((h1.update a (Obj.mapSeq λ_=>(#[]:Array Value))).push (seqObj "tuple" vs.toArray 0)).objs.size) (xs:=[])
  hA R0 R3 N3 (by rw[hkS];exact Nat.ne_of_gt (Nat.lt_succ_of_lt ha')) h0a h0k (Heap.get?_push_size _ rfl) (Heap.get?_push_of_some _ (Heap.get?_push_of_some _ ho1)) hv hks h64 KF h
end
end
noncomputable def TabIs(pos:Pos)(qual:Str)(h:Heap):Prop:=∃ps,h.get? 126=some (tabObj ps)∧TriplesOk ps.toList∧
 (codeAmong pos ps.toList=none∨∃c' o vs t,codeAmong pos ps.toList=some (.ref c')∧h.get? c'=some o∧o.cls=.type "code"∧o.data=.fields vs∧vs[1]? =some (.str qual t))
theorem TabIs.keeps{pos:Pos}{qual:Str}{h h':Heap}(x:TabIs pos qual h)(k:∀b o vs,h.get? b=some o→o.data=.fields vs→(o.cls=.none∨o.cls=.type "code")→h'.get? b=some o):TabIs pos qual h':=by
 refine E13 x λps e t r=>?_;clear x
 refine I13 ps (k _ _ _ e rfl (.inl rfl)) t ?_
 refine bc λhno=>?_;rcases r with r|⟨c',o,vs,t',r1,r2,r3,r4,r5⟩
 ·refine hno ?_;exact .inl r
 ·refine hno ?_;exact .inr ⟨c',o,vs,t',r1,k _ _ _ r2 r4 (.inr r3),r3,r4,r5⟩
section
variable{prog:Program}{w:World}
structure LamTab (c:Cfg prog w) (pos:Pos) (qual:Str):Prop where
 hd:∀h,c.KS.In h→CodeHd h 128 126
 t0:∃ps,c.H0.TableAt 128 126 ps
 tb:∀a,c.TB a↔a=126
 tab:c.Tab=TabIs pos qual
 bm:∃bm ob,c.mg "__builtins__"=some (.ref bm)∧bm≠builtinsNs∧bm≠mainGlobals∧bm≠126∧c.H0.get? bm=some ob∧ob.cls=.type "module"∧ob.dict=some builtinsNs∧ob.data=.plain
variable{c:Cfg prog w}
section
variable{ρ:Nat→Addr}{st:St}{h h':Heap}{pos:Pos}{qual:Str}{ps:Array Value}{c':Addr}
theorem RelH.tabStep(C:c.Ok)(U:LamTab c pos qual)(R:RelH c ρ st h)(hP:h.get? 126=some (tabObj ps))(ht:TriplesOk ps.toList)(hnf:codeAmong pos ps.toList=none)
 (hx:Heap.ExtBut 126 h h') (hP':h'.get? 126=some (tabObj (ps++ #[rawInt pos.line,rawInt pos.col,.ref c'])))
 (hc:∃o vs t,h'.get? c'=some o∧o.cls=.type "code"∧o.data=.fields vs∧vs[1]? =some (.str qual t)):
 RelH c ρ st h'∧Nx c NoA ρ st h ρ st h':=by
 have ntb:∀b,¬c.TB b→b≠126:=λb q z=>q ((U.tb b).mpr z)
 have hoff:∀i,Has i st.H∨Has i st.F→ρ i≠126:=λi hi=>by
  rcases hi with hi|hi
  ·exact ntb _ (RelH.ntb C (R.low i hi))
  ·exact ntb _ (R.ntbF i hi)
 have T:Tr st.n ρ h st.n ρ h':=⟨Nat.le_refl _,λ_ _=>rfl,λa items x=>by
  obtain⟨o,e,hcl,r⟩:=x
  refine⟨o,hx a o (λz=>?_) e,hcl,r⟩
  rw[z,hP]at e;clear C U R hP ht hnf hx hP' hc ntb hoff r z;cases e;cases hcl⟩
 have hst:h'.get? cStatics=h.get? cStatics:=by
  obtain⟨o,e⟩:=C.stat.1
  have:=R.still _ _ e C.stat.2
  rw[this,hx _ _ (ntb _ C.stat.2) this]
 have hd:=U.hd h R.ks
 have tab:=hd.tab hP
 have ks':c.KS.In h':=λb o e=>hx b o (ntb _ (C.keys b o e).2) (R.ks b o e)
 have tab':=(U.hd h' ks').tab hP'
 have eq:∀b o,b≠126→h.get? b=some o→h'.get? b=h.get? b:=λb o q e=>by rw[e,hx b o q e]
 refine⟨⟨ks',?_,?_,λb o e nt=>hx b o (ntb b nt) (R.still b o e nt),?_,λi o e=>?_,λi o e=>?_,R.inj,R.dis,R.low,R.lt,R.ntbF,R.rd⟩,⟨T,λb o e _ _ nt=>hx b o (ntb b nt) e,λ_ e=>.inl e,λ_ e=>.inr (.inl e),λb o e=>?_⟩⟩
 ·obtain⟨mc,⟨o,es,ep,e,r⟩,q⟩:=R.nol
  exact⟨mc,⟨o,es,ep,hst.trans e,r⟩,q⟩
 ·obtain⟨ps0,t0⟩:=U.t0
  exact R.old.step_table t0 tab tab' hx (by decide)
 ·rw[U.tab]
  obtain⟨o,vs,t,q⟩:=hc
  refine⟨_,hP',?_,.inr ⟨c',o,vs,t,?_,q⟩⟩
  ·rw[Array.toList_append];exact TriplesOk_snoc _ _ _ _ ht
  ·rw[Array.toList_append];exact codeAmong_snoc _ ht hnf
 ·have x:=R.obj i o e;obtain⟨ob,q⟩:=x.ex.at;exact x.tr T (eq _ _ (hoff i (.inl ⟨_,e⟩)) q)
 ·have x:=R.fro i o e;obtain⟨ob,q⟩:=x.ex.at;exact x.tr T (eq _ _ (hoff i (.inr ⟨_,e⟩)) q)
 ·by_cases q:b=126
  ·exact⟨_,q▸hP'⟩
  ·exact⟨o,hx b o q e⟩
end
section
variable{A:Around}{E:Value→Shared→Prop}{s:Shared}{ρ:Nat→Addr}{st:St}{name qual:Str}{params:Arguments}{body:Expr}{scope:Scope}{env:Env}{pos:Pos}{firstLine:Nat}
noncomputable def CodeR(h:Heap)(cv:Value)(qual:Str):Prop:=∃c' o vs t,cv=.ref c'∧h.get? c'=some o∧o.cls=.type "code"∧o.data=.fields vs∧vs[1]? =some (.str qual t)
theorem lam_make(C:c.Ok)(U:LamTab c pos qual)(R:RelH c ρ st s.heap)(hcl:closureFor scope env=pure [])(hge0:env.globals=mainGlobals)(hbu:env.builtins=builtinsNs)(hcode:env.code=.ref 128){Q:Value→Shared→Prop}
 (hQ:∀h' tk fl cv pm o,RelH c ρ st h'→Nx c NoA ρ st s.heap ρ st h'→s.heap.get? fl=none→h'.get? fl=some o→o.data=.func (kla_fn name qual params body scope [] pm cv .none)→o.cls=.type "function"→CodeR h' cv qual→Q (.ref fl) {s with heap:=h',toks:=tk}):
 wpAny (model prog w) A (makeFunction name qual params (.expr body) scope env [] [] [] pos firstLine) Q E s:=by
 have htab:=R.tab
 rw[U.tab]at htab
 refine E13 htab λps hP ht hr=>?_;clear htab
 have hd:=U.hd _ R.ks
 refine E28 U.bm λbm ob hbm hne0 hneG hneP hbo hcls hdict hdata=>?_
 have hbo:=R.still _ _ hbo (λq=>hneP ((U.tb _).mp q))
 have hg:s.heap.Ns mainGlobals c.mg:=R.g C
 have hgP:mainGlobals≠126:=by decide
 have fin:∀(h':Heap) (tk:Nat) (cv:Value),RelH c ρ st h'→Nx c NoA ρ st s.heap ρ st h'→CodeR h' cv qual→
  Q (.ref h'.objs.size) {s with heap:=h'.push {cls:=.type "function",data:=.func (kla_fn name qual params body scope [] ((c.mg "__name__").getD .none) cv .none)},toks:=tk}:=by
  intro h' tk cv R' N' hrec
  obtain⟨R2,N2⟩:=keep_step C R R' N' (h2:=h'.push {cls:=.type "function",data:=.func (kla_fn name qual params body scope [] ((c.mg "__name__").getD .none) cv .none)}) λb o e=>Heap.get?_push_of_some _ e
  refine hQ _ tk h'.objs.size cv _ _ R2 N2 ?_ (Heap.get?_push_size _ rfl) rfl rfl (let⟨c',o',vs,t,q1,q2,q3⟩:=hrec;⟨c',o',vs,t,q1,Heap.get?_push_of_some _ q2,q3⟩)
  cases e:s.heap.get? h'.objs.size with
  |none=>rfl
  |some o=>refine E11 (N'.th _ _ e) λo' e'=>?_;exact absurd (Heap.lt_size e') (Nat.lt_irrefl _)
 rw[makeFunction_eq]
 simp only[List.zip_nil_right,List.filterMap_nil,List.isEmpty_nil,if_true,pure_bind]
 unfold makeTail
 rw[hcl,hge0,hbu]
 refine wpAny_bind (wpAny_pure ?_)
 simp only[List.isEmpty_nil,if_true]
 refine wpAny_bind (wpAny_pure ?_)
 refine bc λhno=>?_;rcases hr with hnf|⟨c',o,vs,t,hf,ho,hoc,hod,hov⟩
 ·refine hno ?_;refine wpAny_bind (wpAny_functionCodeX hcode (hd.code hP ht) (hd.tab hP) hnf λc' h' tk hx hge hlt _ hrec htb hnew=>?_)
  refine bc λhno=>?_;refine E13 hnew λP' _ _ hnt=>?_;clear hnew
  refine E02 hnt λy9729 _=>?_;clear hnt;obtain⟨o,vs,e1,e2,e3,_⟩:=y9729
  refine E44 (id hrec) λc2 o2 vs2 t2 f1 f2 f3 f4=>?_
  cases f1
  obtain rfl:=oin e1 f2
  refine E02 (R.tabStep C U hP ht hnf hx htb.2 ⟨o,vs2,t2,e1,e2,f3,f4⟩) λR' N'=>?_
  have hg':=R'.g C
  refine hno ?_;refine wpAny_bind (wpAny_builtinsFor hg' hbm hne0 (hx _ _ hneP hbo) hcls hdict hdata ?_)
  refine wpAny_bind (wpAny_nsGet hg' ?_)
  exact wpAny_bind (wpAny_pure (wpAny_newObj_type (fin h' tk _ R' N' ⟨_,_,_,_,rfl,e1,e2,f3,f4⟩) (by size_fits)))
 ·refine hno ?_;refine wpAny_bind (wpAny_functionCode_hit hcode (hd.code hP ht) hf ?_)
  refine wpAny_bind (wpAny_builtinsFor hg hbm hne0 hbo hcls hdict hdata ?_)
  refine wpAny_bind (wpAny_nsGet hg ?_)
  exact wpAny_bind (wpAny_pure (wpAny_newObj_type (fin s.heap s.toks _ R .refl ⟨c',o,vs,t,rfl,ho,hoc,hod,hov⟩) (by size_fits)))
theorem lam_key(C:c.Ok){d:Nat}{h0:Heap}{fl:Addr}{o:Obj}{x:Str}{cv pm:Value}(R0:RelH c ρ st h0)(e0:h0.get? fl=some o)(ed:o.data=.func (kla_fn name qual params body scope [] pm cv .none))(hcd:h0.CodeRec cv qual)
 (hfl:∀k,Has k st.H→ρ k≠fl) (hntb:¬c.TB fl) (hcdk:∀h1:Heap,(∀b o,h0.get? b=some o→(∀k,Has k st.H→ρ k≠b)→¬c.TB b→h1.get? b=some o)→h1.CodeRec cv qual)
 (hbind:∀v:Value,bindArgs (kla_fn name qual params body scope [] pm cv .none) ⟨[v],[]⟩=pure [(x,v)]) (hloc:scope.names.lookup x=some .local) (hcell:noCell scope=true) (hco:scope.isCoroutine=false) (hgen:scope.isGenerator=false) (hk:scope.kind=.function)
 {SR:List (Nat×AO)} (hb:SemE c (EC scope []) [x] d body (binE (gt 0) (cst (.int 0)) (getI SR))):KeyFn c (d+1) ρ st h0 (.ref fl):=by
 intro A ρ' s k r v' hA R N rv
 have eo:=N.un fl o e0 hfl (λq=>q) hntb
 refine wpAny_call (kla_callFunE (by have:=hA.2.1;lia) eo ed hco hgen rfl (hcdk _ λb o e h1 h2=>N.un b o e h1 (λq=>q) h2) ?_)
 rw[hbind]
 refine wpAny_pure (wpAny_newFunctionEnv (cell_of hcell) (λy hy=>by rw[List.mem_singleton.mp hy];exact hloc) (λh₁ hns hsb=>⟨R.nol.fresh _ hsb,?_⟩) hk)
 have hk₁:∀b o,s.heap.get? b=some o→h₁.get? b=some o:=λb o e=>hsb.extBut b o (Nat.ne_of_lt (Heap.lt_size e)) (Heap.get?_push_of_some _ e)
 have N₁:=Nx.keep (c:=c) (fp:=NoA) (ρ:=ρ') (st:=st) hk₁
 have R₁:=R.keep C hk₁
 have hL:s.heap.get? s.heap.objs.size=none:=fresh_size
 refine kla_codeExpr ?_
 refine hb _ _ [(0,.tup [.int k,r])] ρ' st (.int k) st {s with heap:=h₁,toks:=_} _ _ ⟨rfl,hk,rfl,rfl,λx hx=>by cases hx⟩ hA.deeper R₁ ?_ rfl λρ₂ h₂ tk₂ u N₂ R₂ X₂ ru=>?_
 ·refine⟨List.nodup_cons.mpr ⟨by simp,List.nodup_nil⟩,λi u hi=>?_,⟨_,hns⟩,λx a hx=>(by cases hx),R.fresh hL,λx a hx=>(by cases hx),λk' hk' z=>?_,λk _ x a hx=>(by cases hx),λx a hx=>(by cases hx),λx y a hx=>(by cases hx)⟩
  ·have hi':(match Nat.beq 0 i with|true=>some (V.tup [.int k,r])|false=>none)=some u:=hi
   rw[beq_eq]at hi'
   by_cases q:0=i
   ·rw[decide_eq_true q]at hi';clear C R0 e0 ed hcd hfl hntb hcdk hbind hcell hco hgen hk hb hA R N eo hsb hk₁ R₁ hL hi;obtain rfl:=sin hi';subst q
    exact I23 x v' rfl (.inl ⟨hloc,_,hns,by show List.lookup x [(x,v')]= _;simp[List.lookup]⟩) (rv.tr N₁.tr)
   ·rw[decide_eq_false q]at hi';exact nos hi'
  ·have:∃ob,s.heap.get? (ρ' k')=some ob:=by
    rcases hk' with⟨q,e⟩|⟨q,e⟩
    ·refine E12 ((R.obj k' q e).ex) λob e' _=>?_;exact I11 ob e'
    ·refine E12 ((R.fro k' q e).ex) λob e' _=>?_;exact I11 ob e'
   refine E11 this λob e'=>?_;clear this
   rw[show ρ' k'=s.heap.objs.size from z]at e';exact nn hL e'
 ·refine bc λhno=>?_;cases ru with
  |int _ t=>refine hno ?_;exact I44 ρ₂ h₂ tk₂ t rfl rfl R₂ (N₁.trans R R₁ N₂ λ_ q=>q.elim)
end
end
section
variable{prog:Program}{w:World}{c:Cfg prog w}
theorem sorted_sem(C:c.Ok)(S:SRok c){A:Around}{E:Value→Shared→Prop}{s:Shared}{d:Nat}{ρ:Nat→Addr}{st st':St}{v r:V}{v':Value}{fl:Addr}{Q:Value→Shared→Prop}(hA:AOk (d+2) A)(R0:RelH c ρ st s.heap)(rv:VR st.n ρ s.heap v v')
 (h0:sortK c.SR v st=some (r,st')) (KF:KeyFn c d ρ st s.heap (.ref fl))
 (hQ:KO c ρ st s r st' Q):
 wpAny (model prog w) A (call (.builtin "sorted") [v'] [(Str.ofString "key",.ref fl)]) Q E s:=by
 refine E24 (sortK_inv h0) λxs ks hx hk h64 e=>?_
 clear h0;obtain⟨rfl,rfl⟩:=Prod.mk.inj e
 refine E33 (lsV_at S R0 rv hx) λa its m q9134 ha rs=>?_;clear S rv hx e;subst q9134
 refine E02 (keyed_spec hk) λek hks=>?_
 have hl:s.heap.IsList a its.toList.toArray:=⟨_,ha,rfl,m,by rw[Array.toArray_toList]⟩
 have hlen:its.toList.length=ks.length:=by rw[rs.length,←ek,List.length_map]
 refine call_function_entry_kw kind_sorted plain_sorted entry_sorted (ksk_s1 _ _) ?_
 unfold Builtin.«sorted»
 refine wpAny_bind (m:=checkCount "sorted" 1 1 _) (wpAny_pure ?_)
 refine wpAny_bind (collect_list hl ?_ (by rw[hlen,sizeLine_eq];lia))
 refine wpAny_bind (wpAny_newList ?_ (by rw[hlen,sizeLine_eq];lia))
 generalize its.toList=vs at *
 have hsz:((s.heap.push (seqObj "list" #[] 0)).update s.heap.objs.size (Obj.mapSeq (· ++vs.toArray))).objs.size=s.heap.objs.size+1:=by
  rw[Heap.size_update,size_push']
 have hoL:(((s.heap.push (seqObj "list" #[] 0)).update s.heap.objs.size (Obj.mapSeq (· ++vs.toArray))).push (seqObj "list" vs.toArray 0)).get? (s.heap.objs.size+1)=some (seqObj "list" vs.toArray 0):=by
  rw[←hsz];exact Heap.get?_push_size _ rfl
 have keep:∀b o,s.heap.get? b=some o→(((s.heap.push (seqObj "list" #[] 0)).update s.heap.objs.size (Obj.mapSeq (· ++vs.toArray))).push (seqObj "list" vs.toArray 0)).get? b=some o:=λb o q=>by
  have hlt:b<s.heap.objs.size:=Heap.lt_size q
  rw[Heap.get?_push_ne _ _ _ (by rw[hsz];exact Nat.ne_of_lt (Nat.lt_succ_of_lt hlt)),Heap.get?_update_ne _ _ _ _ (Nat.ne_of_lt hlt),Heap.get?_push_ne _ _ _ (Nat.ne_of_lt hlt)]
  exact q
 have h0a:s.heap.get? (s.heap.objs.size+1)=none:=Heap.get?_none_of_le (Nat.le_succ _)
 show wpAny _ _ _ _ _ {s with heap:=((s.heap.push (seqObj "list" #[] 0)).update s.heap.objs.size (Obj.mapSeq (· ++vs.toArray))).push (seqObj "list" vs.toArray 0)}
 rw[hsz]
 refine E02 (keep_step C R0 R0 .refl keep) λR1 N1=>?_
 refine wpAny_bind (wpAny_holding (wpAny_call_entry_kw slot_list_sort ⟨_,hoL,rfl⟩ entry_list_sort ?body (ksk_l1 _ _)))
 case body=>
  show wpAny (model prog w) A.in1.in1 (Builtin.«list.sort» ⟨[.ref (s.heap.objs.size+1)],[(Str.ofString "key",.ref fl)]⟩) _ _ _
  rw[ksk_t1 fl (s.heap.objs.size+1)]
  refine srt_sort C hA.in1.in1 R0 R1 N1 h0a hoL (by rw[ek];exact rs) hks h64 KF λρ' h' tk out n p R' N' hget hp hu hout=>⟨_,rfl,?_⟩
  have hne:=off_of R0 N' h0a
  have hOA:OAt prog w st.n ρ' h' (s.heap.objs.size+1) (.list ((srtK [] ks).map (·.2))):=by
   refine I22 out n hget ?_
   rw[hout,srtK_eq hp hu]
   have key:∀l:List Nat,(∀i∈l,i<ks.length)→VRs st.n ρ' h' (l.map λi=>(ks.getD (p i) (0,.none)).2) (l.map λi=>vs.getD (p i) .none):=by
    intro l
    induction l with
    |nil=>exact λ_=>.nil
    |cons i l ih=>
     intro hl
     have hi:=hp i (hl i (List.mem_cons_self ..))
     refine E12 ((rs.tr N'.tr).get (i:=p i) (v:=(ks.getD (p i) (0,.none)).2) (by rw[←ek,List.getElem?_map,List.getD_eq_getElem?_getD,List.getElem?_eq_getElem hi];rfl)) λv' e1 e2=>?_
     refine .cons ?_ (ih λj hj=>hl j (List.mem_cons_of_mem _ hj))
     show VR st.n ρ' h' (ks.getD (p i) (0,.none)).2 (vs.getD (p i) .none)
     rw[List.getD_eq_getElem?_getD (l:=vs),e1];exact e2
   exact key _ λi hi=>List.mem_range.mp hi
  have R2:=R'.adopt hOA (R0.fresh h0a) hne
  have N2:=Nx.adopt (o:=.list ((srtK [] ks).map (·.2))) R' N' h0a
  refine wpAny_pure ⟨_,rfl,hQ _ h' tk _ N2 R2 ?_⟩
  have e2:put ρ' st.n (s.heap.objs.size+1) st.n=s.heap.objs.size+1:=if_pos rfl
  have q:VR (st.n+1) (put ρ' st.n (s.heap.objs.size+1)) h' (.ref st.n) (.ref (put ρ' st.n (s.heap.objs.size+1) st.n)):=.ref (Nat.lt_succ_self _)
  rw[e2]at q
  exact q
section
variable{ec:Env→Prop}{nl:List Str}{d:Nat}
theorem SemE.sortKey(C:c.Ok)(S:SRok c){lpos pos p1 kpos:Pos}{x:Str}{q0:Str}{rx:Str}{rp:Pos}{body:Expr}{params:Arguments}{scope:Scope}{f:Loc→M V}{d0:Nat}(U:LamTab c lpos (q0++"<lambda>"))(hrun:SemE c ec nl d (.Name rx rp) f)(hname:SemE c ec nl d (.Name "sorted" p1) (cst (.bi "sorted")))
 (hec:∀env,ec env→env.globals=mainGlobals∧env.builtins=builtinsNs∧env.code=.ref 128∧env.qual=q0) (hd:d=d0+3) (hdef:∀env,defaultsOf params env=([],[])) (hcl:∀env,closureFor scope env=pure [])
 (hbind:∀(cv pm v:Value),bindArgs (kla_fn "<lambda>" (q0++"<lambda>") params body scope [] pm cv .none) ⟨[v],[]⟩=pure [(x,v)]) (hloc:scope.names.lookup x=some .local) (hcell:noCell scope=true) (hco:scope.isCoroutine=false) (hgen:scope.isGenerator=false) (hk:scope.kind=.function)
 (hb:SemE c (EC scope []) [x] d0 body (binE (gt 0) (cst (.int 0)) (getI c.SR))):
 SemE c ec nl d (.Call (.Name "sorted" p1) [.Name rx rp] [⟨some "key",.Lambda params body scope lpos,kpos⟩] pos) (sortKE c.SR f):=by
 subst hd
 intro A env l ρ st v st' s Q E he hA R X h0 hQ
 refine E22 (mbind h0) λrv st₁ hf hr=>?_
 refine E04 (hec env he) λg1 g2 g3 g4=>?_
 show wpAny (model prog w) A (do callWith pos (←eval (.Name "sorted" p1) env) [] (backTo pos (starEach [.Name rx rp] env)) (backToKw pos (keywordEach [⟨some "key",.Lambda params body scope lpos,kpos⟩] env))) Q E s
 refine wpAny_bind (hname A env l ρ st _ st s _ E he hA R X rfl λρ₁ h₁ tk₁ fv N₁ R₁ X₁ rf=>?_)
 cases rf
 refine callWith_kw ?_
 refine(SemEs.cons C hrun SemEs.nil) pos A env l ρ₁ st [rv] st₁ {s with heap:=h₁,toks:=tk₁} _ E he hA R₁ X₁ (by
  show(f l >>= λa=>pure [] >>= λr=>pure (a::r)) st=some ([rv],st₁)
  show(f l st).bind (λp=>some ([p.1],p.2))= _
  rw[hf];rfl) λρ₂ h₂ tk₂ vs' N₂ R₂ X₂ rs=>?_
 cases rs with
 |cons r1 rn=>
  cases rn
  rename_i v1
  refine kws_cons ?_
  refine kla_eval (hdef env) ?_
  rw[g4]
  refine lam_make (s:={s with heap:=h₂,toks:=tk₂}) (ρ:=ρ₂) (st:=st₁) C U R₂ (hcl env) g1 g2 g3 λh₃ tk₃ fl cv pm o R₃ N₃ hfl e3 ed eo hrec=>?_
  refine kws_nil ?_
  have hoff:=off_of R₂ N₃ hfl
  have hntb:¬c.TB fl:=RelH.ntb C (R₂.fresh hfl)
  have hcdk:∀h4:Heap,(∀b o,h₃.get? b=some o→(∀k,Has k st₁.H→ρ₂ k≠b)→¬c.TB b→h4.get? b=some o)→h4.CodeRec cv (q0++"<lambda>"):=by
   intro h4 k
   refine E45 hrec λc' o' vs t q9722 q1 q4 q2 q3=>?_;clear hrec;clear C S hec hdef hcl hbind hloc hcell hco hgen hk hb hrun hname he hA R X h0 hQ hf hr g1 g2 g3 g4 N₁ R₁ X₁ N₂ R₂ X₂ r1 N₃ hfl e3 ed eo hoff hntb;subst q9722
   refine I44 c' o' vs t rfl (k _ _ q1 (λi hi z=>?_) (λz=>?_)) q2 q3
   ·refine E13 ((R₃.obj i _ hi.choose_spec).ex) λob f1 f2 _=>?_
    rw[z]at f1;obtain rfl:=oin q1 f1
    rcases f2 with f2|f2
    ·exact f2 vs q2
    ·exact f2.2 q4
   ·have htab:=R₃.tab
    rw[U.tab]at htab
    refine E12 htab λps hP _=>?_;clear htab
    rw[(U.tb _).mp z]at q1;clear U R₃ k q2 q3 z;obtain rfl:=oin hP q1;cases q4
  refine sorted_sem (s:={s with heap:=h₃,toks:=tk₃}) (d:=d0+1) C S hA R₃ (r1.tr N₃.tr) hr (lam_key C R₃ e3 ed (let⟨c',o',vs,t,q1,q2,_,q3⟩:=hrec;⟨c',o',vs,t,q1,q2,q3⟩) (λk hk=>hoff k (.inl hk)) hntb hcdk (hbind cv pm) hloc hcell hco hgen hk hb) λρ₄ h₄ tk₄ r' N₄ R₄ rr=>?_
  have N24:=N₃.trans R₂ R₃ N₄ λ_ q=>q.elim
  have N14:=N₂.trans R₁ R₂ N24 λ_ q=>q.elim
  exact hQ ρ₄ h₄ tk₄ r' (N₁.trans R R₁ N14 λ_ q=>q.elim) R₄ (X₂.nx C R₂ R₄ N24) rr
theorem SemE.weak{ec ec':Env→Prop}{e:Expr}{f:Loc→M V}(h:SemE c ec nl d e f)(hw:∀env,ec' env→ec env):SemE c ec' nl d e f:=
 λA env l ρ st v st' s Q E he hA R X h0 hQ=>h A env l ρ st v st' s Q E (hw env he) hA R X h0 hQ
end
noncomputable def FnAtQ(K:Frag)(fa:Addr)(F:FD)(names:List Str)(n:Nat)(ex:List Value)(cdv:Value)(qual:Str):Prop:=
 ∃(name:Str) (dV kV doc pm ct oc:Value) (an od:Option Addr) (osl:Array (Option Value)),
  K.lookup fa=some ⟨oc,od,.func (fnOf name qual F.params F.body F.scope dV kV doc pm an cdv ct),osl⟩∧codeIn K cdv qual=true∧
  ∀(s:Shared) (vals:List Value),K.In s.heap→vals.length=n→BindsTo s (fnOf name qual F.params F.body F.scope dV kV doc pm an cdv ct) ⟨vals,[]⟩ (names.zip (vals++ex))
noncomputable abbrev lamP:Pos:=⟨104,53,104,73⟩
noncomputable abbrev lamQ:Str:=(("form_sorted":Str)++".<locals>.")++"<lambda>"
noncomputable def nl_form_sorted:List Str:=["run"]
noncomputable def m_form_sorted(X:XP):Loc→M (Loc×Fl):=(sq (rtn (compM (valI X.SR (sortKE X.SR (gt 0))) [] (tupA 2 (consA (st' 0) (consA (st' 1) asN))) trueT (gt 1) 1000)) nextS)
noncomputable def f_form_sorted(X:XP):List V→M V:=fnM 1 [] (m_form_sorted X)
theorem k_form_sortedG(C:c.Ok)(S:SRok c)(h:FnAtQ c.KS 129 (topF 25) ["run"] 1 [] (.ref 128) "form_sorted")(hs:nsIn c.KS mainGlobals "sorted"=some none)(U:LamTab c lamP lamQ):SemCode c 4 129 (f_form_sorted c.xp):=by
 obtain⟨name,dV,kV,doc,pm,ct,oc,an,od,osl,h1,h2,h3⟩:=h
 refine SemCode.fnQ (exV:=[]) (ex:=[]) (nl:=nl_form_sorted) C h1 h2 h3 (by kernel_rfl) (by kernel_rfl) (by kernel_rfl) (by decide) (by decide) (λ_ _ _=>.nil) (by decide) ?_ (by kernel_rfl) (by kernel_rfl) (by kernel_rfl)
 have hw:∀env:Env,(EC (topF 25).scope [] env∧env.code=.ref 128∧env.qual=("form_sorted":Str)++".<locals>.")→EC (topF 25).scope [] env:=λenv h=>h.1
 exact(SemB.cons C (SemS.ret (SemE.compG (nl':=["weight","code"]) (cn':=[]) C hw
  (R.valI C S (SemE.sortKey (d0:=0) (x:="pair") C S U ((R.name (by kernel_rfl) (by kernel_rfl) (by kernel_rfl)).weak hw) ((R.builtin C (by kernel_rfl) hs (by kernel_rfl) (by decide) (λ_ _ _=>.bi _) (by kernel_rfl)).weak hw) (λenv h=>⟨h.1.2.2.1,h.1.2.2.2.1,h.2.1,h.2.2⟩) rfl (λ_=>rfl) (λ_=>rfl) (λ_ _ _=>by kernel_rfl) (by kernel_rfl) (by kernel_rfl) (by kernel_rfl) (by kernel_rfl) (by kernel_rfl)
    (R.sub C S (R.name (by kernel_rfl) (by kernel_rfl) (by kernel_rfl)) R.cint (λ_ _=>rfl))))
  (SemA.tup C (SemAs.cons C (R.nameL C (by kernel_rfl) (by kernel_rfl)) (SemAs.cons C (R.nameL C (by kernel_rfl) (by kernel_rfl)) R.asN (λ_=>rfl)) (λ_=>rfl)) rfl) R.tN (R.name (by kernel_rfl) (by kernel_rfl) (by kernel_rfl)) (by decide) (by kernel_rfl) (λ_ _=>rfl))) R.bN)
end
section
variable{prog:Program}{w:World}{c:Cfg prog w}{ec:Env→Prop}{nl:List Str}{d:Nat}
theorem rN{SC:Scope}{cn:List Str}{i:Nat}{x:Str}{pos:Pos} (hx:nl[i]? =some x:=by kernel_rfl)(hd:(x==("__debug__":Str))=false:=by kernel_rfl)(hcd:(x==("__classdict__":Str))=false:=by kernel_rfl):SemE c (EC SC cn) nl d (.Name x pos) (gt i):=R.name hx hd hcd
theorem rE{e:Expr}{es:List Expr}{f:Loc→M V}{g:Loc→M (List V)}(h₁:SemE c ec nl d e f)(h₂:SemEs c ec nl d es g)(C:c.Ok:=by assumption)(hs:∀env,starEach (e::es) env=(false,eval e env)::starEach es env:=by intros;rfl):SemEs c ec nl d (e::es) (esC f g):=R.esC C h₁ h₂ hs
theorem rS{x:Str}{y:List Nat}{k:Nat}{pos:Pos} (hy:x.cps.toList=y:=by kernel_rfl):SemE c ec nl d (.Constant (.str x) k pos) (cst (.str y)):=R.cstr hy
theorem rO{op:Operator}{e₁ e₂:Expr}{pos:Pos}{f g:Loc→M V}{o:V→V→M V}(h₁:SemE c ec nl d e₁ f)(h₂:SemE c ec nl d e₂ g)(ho:SemOp c d (binaryOp op) o)(C:c.Ok:=by assumption):SemE c ec nl d (.BinOp e₁ op e₂ pos) (binE f g o):=R.bin C h₁ h₂ ho
theorem rM{op:CmpOp}{e₁ e₂:Expr}{pos:Pos}{f g:Loc→M V}{o:V→V→M V}(h₁:SemE c ec nl d e₁ f)(h₂:SemE c ec nl d e₂ g)(ho:SemOp c d (compareOp op) o)(C:c.Ok:=by assumption)(hm:behindInMarks op e₂=false:=by kernel_rfl):SemE c ec nl d (.Compare e₁ [op] [e₂] pos) (binE f g o):=R.cmp C h₁ h₂ ho hm
theorem tC{op:CmpOp}{e₁ e₂:Expr}{pos:Pos}{f g:Loc→M V}{o:V→V→M V}(h₁:SemE c ec nl d e₁ f)(h₂:SemE c ec nl d e₂ g)(ho:SemOp c d (compareOp op) o)(C:c.Ok:=by assumption)(hm:behindInMarks op e₂=false:=by kernel_rfl):SemT c ec nl d (.Compare e₁ [op] [e₂] pos) (tst c.SR (binE f g o)):=R.tcmp C h₁ h₂ ho hm
theorem rC{fe:Expr}{fv:V}{args:List Expr}{pos:Pos}{fs:Loc→M (List V)}{g:List V→M V}(hk:Keep c fv)(hfe:SemE c ec nl d fe (cst fv))(ha:SemEs c ec nl d args fs)(hc:SemCall c d fv g)(C:c.Ok:=by assumption)(hp:plainEs args=true:=by kernel_rfl)(hx:∃x p,fe=.Name x p:=by exact⟨_,_,rfl⟩):SemE c ec nl d (.Call fe args [] pos) (callE fs g):=R.call C hk hp hfe ha hc hx
theorem rQ{es:List Expr}{pos:Pos}{fs:Loc→M (List V)}(h:SemEs c ec nl d es fs)(C:c.Ok:=by assumption):SemE c ec nl d (.List es pos) (lstE fs):=R.list C h
theorem rP{es:List Expr}{k:Nat}{pos:Pos}{fs:Loc→M (List V)}(h:SemEs c ec nl d es fs)(C:c.Ok:=by assumption)(hl:es.length≤100:=by decide):SemE c ec nl d (.Tuple es k pos) (tupE fs):=R.tup C h hl
theorem vI{tg e:Expr}{f:Loc→M V}(h:SemE c ec nl d e f)(C:c.Ok:=by assumption)(S:SRok c:=by assumption):SemI c ec nl d tg e (valI c.SR f):=R.valI C S h
theorem rU{e₁ e₂:Expr}{pos:Pos}{f g:Loc→M V}(h₁:SemE c ec nl d e₁ f)(h₂:SemE c ec nl d e₂ g)(C:c.Ok:=by assumption)(S:SRok c:=by assumption)(hs:∀o i,subscripted e₂ false o i=operate [o,i] (getItem o i):=by intros;rfl):SemE c ec nl d (.Subscript e₁ e₂ pos) (binE f g (getI c.SR)):=R.sub C S h₁ h₂ hs
theorem rA{SC:Scope}{cn:List Str}{i:Nat}{x:Str}{pos:Pos} (C:c.Ok:=by assumption)(hx:nl[i]? =some x:=by kernel_rfl)(hk:SC.names.lookup x=some .local:=by kernel_rfl):SemA c (EC SC cn) nl d FPe (.Name x pos) (st' i):=R.nameA C hx hk
theorem rL{SC:Scope}{cn:List Str}{i:Nat}{x:Str}{pos:Pos} (C:c.Ok:=by assumption)(hx:nl[i]? =some x:=by kernel_rfl)(hk:SC.names.lookup x=some .local:=by kernel_rfl):SemA c (EC SC cn) nl d FPl (.Name x pos) (st' i):=R.nameL C hx hk
theorem rX{SC:Scope}{cn:List Str}{i:Nat}{x:Str}{pos:Pos} (C:c.Ok:=by assumption)(hx:nl[i]? =some x:=by kernel_rfl)(hk:SC.names.lookup x=some .cell:=by kernel_rfl)(hc:x∈cn:=by decide):SemA c (EC SC cn) nl d FPe (.Name x pos) (st' i):=R.cellA C hx hk hc
theorem xS{SC:Scope}{cn:List Str}{e:Expr}{pos:Pos}{f:Loc→M V}(h:SemE c (EC SC cn) nl d e f)(hs:∀env,EC SC cn env→swapsWith e none pos.line env=pure false:=by intros;rfl):SemS c (EC SC cn) nl d (.Expr e pos) (doE f):=R.expr h hs
theorem bC{b:Stmt}{bs:List Stmt}{f g:Loc→M (Loc×Fl)}(h₁:SemS c ec nl d b f)(h₂:SemB c ec nl d bs g)(C:c.Ok:=by assumption):SemB c ec nl d (b::bs) (sq f g):=SemB.cons C h₁ h₂
theorem aS{t e:Expr}{pos:Pos}{f:Loc→M V}{g:V→Loc→M Loc}(h₁:SemE c ec nl d e f)(h₂:SemA c ec nl d FPe t g)(C:c.Ok:=by assumption)(hst:∀env:Env,(assignEach [t] env).map (·.2)=[PySem.assign t env]:=by intros;rfl)(hsw:∀env,ec env→swapsWithSole [t] e pos.line env=pure false:=by intros;rfl)(hss:∀env,ec env→swappedStores [t] e env=pure none:=by intros;rfl):SemS c ec nl d (.Assign [t] e pos) (asg f g):=SemS.assign C h₁ h₂ hst hsw hss
theorem iF{t:Expr}{b o:List Stmt}{pos:Pos}{ft:Loc→M Bool}{f g:Loc→M (Loc×Fl)}(ht:SemT c ec nl d t ft)(hb:SemB c ec nl d b f)(ho:SemB c ec nl d o g)(C:c.Ok:=by assumption):SemS c ec nl d (.If t b o pos) (iff' ft f g):=SemS.ite C ht hb ho
theorem rD{o:Expr}{name:Str}{l0:List Nat}{pos:Pos}{C0:Addr}{f:Loc→M V}(h:SemE c ec nl d o f)(hc:clsGet c.KS C0 name=true)(hl:name.cps.toList=l0:=by kernel_rfl)(he':∀env,eval (.Attribute o name pos) env=(do
 let x ←eval o env
 standAt pos.atName
 let r ←holding [x] (getAttr x name true)
 letTemporaryGo o x r
 pure r):=by intros;rfl):SemE c ec nl d (.Attribute o name pos) (attrE C0 l0 f):=SemE.attr h hl hc he'
theorem aA{o:Expr}{name:Str}{l0:List Nat}{pos:Pos}{C0:Addr}{f:Loc→M V}(h:SemE c ec nl d o f)(hc:clsSet c.KS C0 name=true)(C:c.Ok:=by assumption)(hl:name.cps.toList=l0:=by kernel_rfl):SemA c ec nl d FPe (.Attribute o name pos) (atA C0 l0 f):=SemA.attr C h hl hc
theorem aB{o i:Expr}{pos:Pos}{f g:Loc→M V}(h₁:SemE c ec nl d o f)(h₂:SemE c ec nl d i g)(C:c.Ok:=by assumption):SemA c ec nl d FPe (.Subscript o i pos) (subA f g):=SemA.sub C h₁ h₂
theorem aC{fp:Env→Addr→Prop}{t:Expr}{ts:List Expr}{g:V→Loc→M Loc}{gs:List V→Loc→M Loc}(h₁:SemA c ec nl d fp t g)(h₂:SemAs c ec nl d fp ts gs)(C:c.Ok:=by assumption)(hst:∀env,assignEach (t::ts) env=(false,PySem.assign t env)::assignEach ts env:=by intros;rfl):SemAs c ec nl d fp (t::ts) (consA g gs):=SemAs.cons C h₁ h₂ hst
theorem mB{o:Expr}{name:Str}{apos pos:Pos}{args:List Expr}{t:Nat}{id:String}{f:Loc→M V}{fs:Loc→M (List V)}{g:List V→M V}(pa:PlainAttrs (kdT t))(slot:Slot (kdT t) name id)(ho:SemE c ec nl d o f)(ha:SemEs c ec nl d args fs)(hc:SemCall c d (.bi id) g)(C:c.Ok:=by assumption)(S:SRok c:=by assumption)(ht:t≠0:=by decide)(hty:typeOf (.builtin id)=pure (.type "method_descriptor"):=by kernel_rfl)(hp:plainEs args=true:=by kernel_rfl)(he':∀env,∃pl,eval (.Call (.Attribute o name apos) args [] pos) env=(do
 let ov ←eval o env
 standAt apos.atName
 let(f,first) ←holding [ov] (getMethod ov name pl)
 callWith pos f first (backTo pos (starEach args env)) (backToKw pos (keywordEach [] env))):=by exact λ_=>⟨_,rfl⟩):SemE c ec nl d (.Call (.Attribute o name apos) args [] pos) (methB c.SR t f fs g):=SemE.methB C S ht pa slot hty hp ho ha hc he'
theorem mE{o:Expr}{name:Str}{l0:List Nat}{apos pos:Pos}{args:List Expr}{C0 fa:Addr}{f:Loc→M V}{fs:Loc→M (List V)}{g:List V→M V}(hm:clsMeth c.KS C0 name fa=true)(hk:keepIn c.KS (.ref fa)=true)(ho:SemE c ec nl d o f)(ha:SemEs c ec nl d args fs)(hc:SemCall c d (.adr fa) g)(C:c.Ok:=by assumption)(hl:name.cps.toList=l0:=by kernel_rfl)(hp:plainEs args=true:=by kernel_rfl)(he':∀env,∃pl,eval (.Call (.Attribute o name apos) args [] pos) env=(do
 let ov ←eval o env
 standAt apos.atName
 let(f,first) ←holding [ov] (getMethod ov name pl)
 callWith pos f first (backTo pos (starEach args env)) (backToKw pos (keywordEach [] env))):=by exact λ_=>⟨_,rfl⟩):SemE c ec nl d (.Call (.Attribute o name apos) args [] pos) (Mine.meth C0 l0 f fs g):=SemE.meth C hl hm hk hp ho ha hc he'
theorem sL{e:Expr}{lo hi:Option Expr}{p pos:Pos}{f:Loc→M V}{fa fb:Loc→M (Option Int)}(h:SemE c ec nl d e f)(ha:SemP c ec nl d lo fa)(hb:SemP c ec nl d hi fb)(C:c.Ok:=by assumption)(S:SRok c:=by assumption)(hs:∀o i,subscripted (.Slice lo hi none p) false o i=operate [i,o] (getItem o i):=by intros;rfl):SemE c ec nl d (.Subscript e (.Slice lo hi none p) pos) (slcE c.SR f fa fb):=SemE.slice C S h ha hb hs
theorem fR{t e:Expr}{b:List Stmt}{pos:Pos}{g:Loc→M (Nat→St→Option (Option V))}{ga:V→Loc→M Loc}{fb:Loc→M (Loc×Fl)}(fuel:Nat)(hi:SemI c ec nl d t e g)(ha:SemA c ec nl d FPe t ga)(hb:SemB c ec nl d b fb)(C:c.Ok:=by assumption)(hs:∀env x,foldedSetIterable e env x=pure x:=by intros;rfl):SemS c ec nl d (.For t e b [] pos) (forS g ga fb fuel):=SemS.for C fuel hi ha hb hs
theorem tV{e:Expr}{f:Loc→M V}(h:SemE c ec nl d e f)(he':∀env whole,isTrue e env whole=(do let v ←whole;standAt e.pos;holding [v] (truthy v)):=by intros;rfl):SemT c ec nl d e (tst c.SR f):=SemT.val h he'
theorem tA{x:Expr}{r:List Expr}{f g:Loc→M Bool}(hx:SemT c ec nl d x f)(hr:SemTL c ec nl d .And r g)(C:c.Ok:=by assumption):SemTL c ec nl d .And (x::r) (andT f g):=SemTL.andCons C hx hr
theorem tO{x:Expr}{r:List Expr}{f g:Loc→M Bool}(hx:SemT c ec nl d x f)(hr:SemTL c ec nl d .Or r g)(C:c.Ok:=by assumption):SemTL c ec nl d .Or (x::r) (orT f g):=SemTL.orCons C hx hr
theorem cA{fa:Addr}{F:FD}{names:List Str}{n:Nat}{exV:List V}{ex:List Value}{f:Loc→M (Loc×Fl)}(h:FnAt c.KS fa F names n ex)(hb:SemB c (EC F.scope []) nl d F.body f)(C:c.Ok:=by assumption)(hloc:locB names F.scope=true:=by kernel_rfl)(hcell:noCell F.scope=true:=by kernel_rfl)(hnl:headB names nl=true:=by kernel_rfl)(nd:nl.Nodup:=by decide)(ndn:names.Nodup:=by decide)(hex:∀n ρ h,VRs n ρ h exV ex:=by exact λ_ _ _=>.nil)(hco:F.scope.isCoroutine=false:=by kernel_rfl)(hgen:F.scope.isGenerator=false:=by kernel_rfl)(hk:F.scope.kind=.function:=by kernel_rfl)(hlen:names.length=n+ex.length:=by decide):SemCode c (d+1) fa (fnM n exV f):=SemCode.at C h hloc hcell hnl nd ndn hex hb hco hgen hk hlen
theorem sW{SC:Scope}{cn:List Str}{t e:Expr}{pos:Pos}{f:Loc→M V}{is:List Nat}{names:List Str}(h₁:SemE c (EC SC cn) nl d e f)(C:c.Ok:=by assumption)(hB:namesB nl SC is names=true:=by kernel_rfl)(hsw:∀env,EC SC cn env→swapsWithSole [t] e pos.line env=pure false:=by intros;rfl)(hss:∀env,EC SC cn env→swappedStores [t] e env=pure (some names):=by exact scEq λ_=>by kernel_rfl):SemS c (EC SC cn) nl d (.Assign [t] e pos) (asgR f is):=SemS.assignSw C h₁ hB hsw hss
theorem pS{k v:Expr}{ks:List (Option Expr)}{vs:List Expr}{f g:Loc→M V}{fs:Loc→M (List (V×V))}(h₁:SemE c ec nl d k f)(h₂:SemE c ec nl d v g)(h₃:SemPs c ec nl d ks vs fs)(C:c.Ok:=by assumption):SemPs c ec nl d (some k::ks) (v::vs) (psC f g fs):=R.psC C h₁ h₂ h₃
theorem rG{SC:Scope}{cn:List Str}{x:Str}{pos:Pos}{a:Addr}(e:nsIn c.KS mainGlobals x=some (some (.ref a)))(C:c.Ok:=by assumption)(hk:SC.names.lookup x=some .globalImplicit:=by kernel_rfl)(hd:(x==("__debug__":Str))=false:=by kernel_rfl):SemE c (EC SC cn) nl d (.Name x pos) (cst (.adr a)):=R.glob C hk e (λ_ _ _ _=>.adr _) hd
theorem rH{SC:Scope}{cn:List Str}{x:Str}{pos:Pos}{i:Int}{t:Tok}(e:nsIn c.KS mainGlobals x=some (some (.int i t)))(C:c.Ok:=by assumption)(hk:SC.names.lookup x=some .globalImplicit:=by kernel_rfl)(hd:(x==("__debug__":Str))=false:=by kernel_rfl):SemE c (EC SC cn) nl d (.Name x pos) (cst (.int i)):=R.glob C hk e (λ_ _ _ _=>.int _ _) hd
theorem rB{SC:Scope}{cn:List Str}{x:Str}{pos:Pos}{v:String}(e:nsIn c.KS mainGlobals x=some none)(C:c.Ok:=by assumption)(hk:SC.names.lookup x=some .globalImplicit:=by kernel_rfl)(hb:bootBuiltins x=some (.builtin v):=by kernel_rfl)(hn:x≠"__name__":=by decide)(hd:(x==("__debug__":Str))=false:=by kernel_rfl):SemE c (EC SC cn) nl d (.Name x pos) (cst (.bi v)):=R.builtin C hk e hb hn (λ_ _ _=>.bi _) hd
theorem rT{SC:Scope}{cn:List Str}{x:Str}{pos:Pos}{v:String}(e:nsIn c.KS mainGlobals x=some none)(C:c.Ok:=by assumption)(hk:SC.names.lookup x=some .globalImplicit:=by kernel_rfl)(hb:bootBuiltins x=some (.type v):=by kernel_rfl)(hn:x≠"__name__":=by decide)(hd:(x==("__debug__":Str))=false:=by kernel_rfl):SemE c (EC SC cn) nl d (.Name x pos) (cst (.ty v)):=R.builtin C hk e hb hn (λ_ _ _=>.ty _) hd
theorem cD{fa:Addr}{g:List V→M V}{d':Nat}(h:SemCode c d fa g)(hd:d≤d':=by decide):SemCall c d' (.adr fa) g:=SemCall.of_code (h.less hd)
theorem cP{a:Addr}{g:List V→M V}(h:SemCall c d (.adr a) g)(C:c.Ok:=by assumption)(D:RDok c:=by assumption):SemCall c d (.adr a) (pureM c.RD c.B g):=SemCall.pure C D (λ_ _ _ _ _ _ _ r=>by cases r;exact .adr _) h
end
structure TX (K:Frag):Prop where
 b_bool:nsIn K mainGlobals "bool"=some none
 g_starts_at:nsIn K mainGlobals "starts_at"=some (some (.ref 68))
 kp68:keepIn K (.ref 68)=true
 b_len:nsIn K mainGlobals "len"=some none
 g_common_prefix:nsIn K mainGlobals "common_prefix"=some (some (.ref 61))
 kp61:keepIn K (.ref 61)=true
 g_law_prefix:nsIn K mainGlobals "_law_prefix"=some (some (.ref 448))
 kp448:keepIn K (.ref 448)=true
 g_law_draw:nsIn K mainGlobals "_law_draw"=some (some (.ref 384))
 kp384:keepIn K (.ref 384)=true
 b_range:nsIn K mainGlobals "range"=some none
 g_law_pick:nsIn K mainGlobals "_law_pick"=some (some (.ref 391))
 kp391:keepIn K (.ref 391)=true
 b_list:nsIn K mainGlobals "list"=some none
 cm258_finish:clsMeth K 258 "finish" 255=true
 kp255:keepIn K (.ref 255)=true
 cm258_put_all:clsMeth K 258 "put_all" 248=true
 kp248:keepIn K (.ref 248)=true
 g_FormStream:nsIn K mainGlobals "FormStream"=some (some (.ref 258))
 mk258:makesIn K 258=true
 in258:findIn K (.ref 258) "__init__"=some (some (.ref 234))
 ty234:typeIn K (.ref 234)=some (.type "function")
 kp258:keepIn K (.ref 258)=true
 g_law_form:nsIn K mainGlobals "_law_form"=some (some (.ref 443))
 kp443:keepIn K (.ref 443)=true
 b_sorted:nsIn K mainGlobals "sorted"=some none
 g_law_known:nsIn K mainGlobals "_law_known"=some (some (.ref 410))
 g_law_menu:nsIn K mainGlobals "_law_menu"=some (some (.ref 405))
 g_law_data:nsIn K mainGlobals "_law_data"=some (some (.ref 417))
 kp417:keepIn K (.ref 417)=true
 g_law_deck:nsIn K mainGlobals "_law_deck"=some (some (.ref 377))
 kp377:keepIn K (.ref 377)=true
 cs258_held:clsSet K 258 "held"=true
 g_stream_composer:nsIn K mainGlobals "stream_composer"=some (some (.ref 211))
 kp211:keepIn K (.ref 211)=true
 cs258_composer:clsSet K 258 "composer"=true
 cs258_word:clsSet K 258 "word"=true
 cs258_data:clsSet K 258 "data"=true
 g_Composer:nsIn K mainGlobals "Composer"=some (some (.ref 182))
 mk182:makesIn K 182=true
 in182:findIn K (.ref 182) "__init__"=some (some (.ref 165))
 ty165:typeIn K (.ref 165)=some (.type "function")
 kp182:keepIn K (.ref 182)=true
 g_DECOMPOSED:∃a,nsIn K mainGlobals "DECOMPOSED"=some (some (.ref a))∧∀n ρ h,K.In h→VR n ρ h (.tup [.str [110,102,100],.str [110,102,107,100]]) (.ref a)
 cg182_pairs:clsGet K 182 "pairs"=true
 cg182_seconds:clsGet K 182 "seconds"=true
 cs182_seconds:clsSet K 182 "seconds"=true
 g_primary_composites:nsIn K mainGlobals "primary_composites"=some (some (.ref 144))
 kp144:keepIn K (.ref 144)=true
 cs182_pairs:clsSet K 182 "pairs"=true
 cm368_map_of:clsMeth K 368 "map_of" 365=true
 kp365:keepIn K (.ref 365)=true
 cm312_ranges:clsMeth K 312 "ranges" 302=true
 kp302:keepIn K (.ref 302)=true
 g_form_is_primary:nsIn K mainGlobals "form_is_primary"=some (some (.ref 151))
 kp151:keepIn K (.ref 151)=true
 cg368_maps:clsGet K 368 "maps"=true
 g_RangeMap:nsIn K mainGlobals "RangeMap"=some (some (.ref 312))
 cg368_defaults:clsGet K 368 "defaults"=true
 mk312:makesIn K 312=true
 in312:findIn K (.ref 312) "__init__"=some (some (.ref 283))
 ty283:typeIn K (.ref 283)=some (.type "function")
 kp312:keepIn K (.ref 312)=true
 cs312_values:clsSet K 312 "values"=true
 cs312_starts:clsSet K 312 "starts"=true
 cs312_default:clsSet K 312 "default"=true
 fn_RangeMap_init:FnAt K 283 (metF 40 0) ["self","default"] 2 []
 fn_Data_map_of:FnAt K 365 (metF 44 3) ["self","name"] 2 []
 g_range_rows:nsIn K mainGlobals "range_rows"=some (some (.ref 323))
 kp323:keepIn K (.ref 323)=true
 g_range_are_like:nsIn K mainGlobals "range_are_like"=some (some (.ref 269))
 cg312_default:clsGet K 312 "default"=true
 kp269:keepIn K (.ref 269)=true
 b_isinstance:nsIn K mainGlobals "isinstance"=some none
 fn_range_are_like:FnAt K 269 (topF 39) ["one","other"] 2 []
 b_enumerate:nsIn K mainGlobals "enumerate"=some none
 cg312_values:clsGet K 312 "values"=true
 g_MAX_CODE:∃t,nsIn K mainGlobals "MAX_CODE"=some (some (.int 1114111 t))
 cg312_starts:clsGet K 312 "starts"=true
 fn_range_rows:FnAt K 323 (topF 41) ["range_map"] 1 []
 fn_RangeMap_ranges:FnAtC K 302 (metF 40 3) ["self"] 1
 cm368_get:clsMeth K 368 "get" 358=true
 kp358:keepIn K (.ref 358)=true
 g_hangul_parts:nsIn K mainGlobals "hangul_parts"=some (some (.ref 96))
 kp96:keepIn K (.ref 96)=true
 cm312_get:clsMeth K 312 "get" 290=true
 kp290:keepIn K (.ref 290)=true
 g_place_by_half:nsIn K mainGlobals "place_by_half"=some (some (.ref 75))
 kp75:keepIn K (.ref 75)=true
 fn_place_by_half:FnAt K 75 (topF 7) ["firsts","number"] 2 []
 fn_RangeMap_get:FnAt K 290 (metF 40 1) ["self","code"] 2 []
 fn_Data_get:FnAt K 358 (metF 44 2) ["self","name","code"] 3 []
 g_TAIL_NONE:∃t,nsIn K mainGlobals "TAIL_NONE"=some (some (.int 4519 t))
 g_VOWEL_FIRST:∃t,nsIn K mainGlobals "VOWEL_FIRST"=some (some (.int 4449 t))
 g_LEAD_FIRST:∃t,nsIn K mainGlobals "LEAD_FIRST"=some (some (.int 4352 t))
 g_hangul_numbers:nsIn K mainGlobals "hangul_numbers"=some (some (.ref 89))
 kp89:keepIn K (.ref 89)=true
 g_is_hangul_syllable:nsIn K mainGlobals "is_hangul_syllable"=some (some (.ref 82))
 kp82:keepIn K (.ref 82)=true
 g_TAILS:∃t,nsIn K mainGlobals "TAILS"=some (some (.int 28 t))
 g_VOWELS:∃t,nsIn K mainGlobals "VOWELS"=some (some (.int 21 t))
 g_SYLLABLE_FIRST:∃t,nsIn K mainGlobals "SYLLABLE_FIRST"=some (some (.int 44032 t))
 fn_hangul_numbers:FnAt K 89 (topF 18) ["code"] 1 []
 g_SYLLABLES:∃t,nsIn K mainGlobals "SYLLABLES"=some (some (.int 11172 t))
 fn_is_hangul_syllable:FnAt K 82 (topF 17) ["code"] 1 []
 fn_hangul_parts:FnAt K 96 (topF 19) ["code"] 1 []
 fn_form_is_primary:FnAt K 151 (topF 28) ["code","parts","data"] 3 []
 fn_primary_composites:FnAt K 144 (topF 27) ["data"] 1 []
 fn_Composer_init:FnAt K 165 (metF 29 0) ["self","data"] 2 []
 fn_stream_composer:FnAt K 211 (topF 35) ["data","word","composer"] 3 []
 fn_FormStream_init:FnAt K 234 (metF 37 0) ["self","data","word","composer"] 3 [Value.none]
 g_form_of:nsIn K mainGlobals "form_of"=some (some (.ref 202))
 cg258_composer:clsGet K 258 "composer"=true
 cg258_word:clsGet K 258 "word"=true
 cg258_data:clsGet K 258 "data"=true
 cg258_held:clsGet K 258 "held"=true
 kp202:keepIn K (.ref 202)=true
 g_composed:nsIn K mainGlobals "composed"=some (some (.ref 194))
 kp194:keepIn K (.ref 194)=true
 g_decomposed:nsIn K mainGlobals "decomposed"=some (some (.ref 137))
 kp137:keepIn K (.ref 137)=true
 b_max:nsIn K mainGlobals "max"=some none
 cm182_pair:clsMeth K 182 "pair" 172=true
 kp172:keepIn K (.ref 172)=true
 g_hangul_pair:nsIn K mainGlobals "hangul_pair"=some (some (.ref 103))
 kp103:keepIn K (.ref 103)=true
 g_LEADS:∃t,nsIn K mainGlobals "LEADS"=some (some (.int 19 t))
 fn_hangul_pair:FnAt K 103 (topF 20) ["one","other"] 2 []
 fn_Composer_pair:FnAt K 172 (metF 29 1) ["self","one","other"] 3 []
 fn_composed:FnAt K 194 (topF 30) ["text","data","composer"] 3 []
 g_ordered:nsIn K mainGlobals "ordered"=some (some (.ref 124))
 kp124:keepIn K (.ref 124)=true
 g_form_expanded:nsIn K mainGlobals "form_expanded"=some (some (.ref 117))
 kp117:keepIn K (.ref 117)=true
 g_form_mapping:nsIn K mainGlobals "form_mapping"=some (some (.ref 110))
 kp110:keepIn K (.ref 110)=true
 fn_form_mapping:FnAt K 110 (topF 22) ["code","data","is_compat"] 3 []
 fn_form_expanded:FnAt K 117 (topF 23) ["code","data","is_compat"] 3 []
 g_form_sorted:nsIn K mainGlobals "form_sorted"=some (some (.ref 129))
 kp129:keepIn K (.ref 129)=true
 fn_form_sorted:FnAtQ K 129 (topF 25) ["run"] 1 [] (.ref 128) "form_sorted"
 fn_ordered:FnAt K 124 (topF 24) ["text","data"] 2 []
 fn_decomposed:FnAt K 137 (topF 26) ["text","data","is_compat"] 3 []
 fn_form_of:FnAt K 202 (topF 31) ["text","data","word","composer"] 4 []
 fn_FormStream_finish:FnAt K 255 (metF 37 3) ["self"] 1 []
 cm258_put:clsMeth K 258 "put" 241=true
 kp241:keepIn K (.ref 241)=true
 g_is_stable_ahead:nsIn K mainGlobals "is_stable_ahead"=some (some (.ref 219))
 kp219:keepIn K (.ref 219)=true
 cm182_is_second:clsMeth K 182 "is_second" 179=true
 kp179:keepIn K (.ref 179)=true
 g_COMPATIBLE:∃a,nsIn K mainGlobals "COMPATIBLE"=some (some (.ref a))∧∀n ρ h,K.In h→VR n ρ h (.tup [.str [110,102,107,100],.str [110,102,107,99]]) (.ref a)
 fn_Composer_is_second:FnAt K 179 (metF 29 2) ["self","code"] 2 []
 fn_is_stable_ahead:FnAt K 219 (topF 36) ["code","data","word","composer"] 4 []
 fn_FormStream_put:FnAt K 241 (metF 37 1) ["self","code"] 2 []
 fn_FormStream_put_all:FnAt K 248 (metF 37 2) ["self","text"] 2 []
 g_law_class:nsIn K mainGlobals "_law_class"=some (some (.ref 404))
 kp404:keepIn K (.ref 404)=true
 cm368_put:clsMeth K 368 "put" 351=true
 kp351:keepIn K (.ref 351)=true
 g_law_parts:nsIn K mainGlobals "_law_parts"=some (some (.ref 392))
 b_tuple:nsIn K mainGlobals "tuple"=some none
 g_Data:nsIn K mainGlobals "Data"=some (some (.ref 368))
 mk368:makesIn K 368=true
 in368:findIn K (.ref 368) "__init__"=some (some (.ref 344))
 ty344:typeIn K (.ref 344)=some (.type "function")
 kp368:keepIn K (.ref 368)=true
 cs368_words:clsSet K 368 "words"=true
 cs368_properties:clsSet K 368 "properties"=true
 cs368_maps:clsSet K 368 "maps"=true
 g_data_defaults:nsIn K mainGlobals "data_defaults"=some (some (.ref 330))
 kp330:keepIn K (.ref 330)=true
 cs368_defaults:clsSet K 368 "defaults"=true
 fn_data_defaults:FnAt K 330 (topF 43) [] 0 []
 fn_Data_init:FnAt K 344 (metF 44 0) ["self"] 1 []
 cm312_put:clsMeth K 312 "put" 297=true
 kp297:keepIn K (.ref 297)=true
 fn_RangeMap_put:FnAt K 297 (metF 40 2) ["self","first","last","value"] 4 []
 fn_Data_put:FnAt K 351 (metF 44 1) ["self","name","first","last","value"] 5 []
 fn_law_class:FnAt K 404 (topF 50) [] 0 []
 fn_law_data:FnAt K 417 (topF 53) [] 0 []
 b_int:nsIn K mainGlobals "int"=some none
 fn_law_deck:FnAt K 377 (topF 46) ["script"] 1 []
 fn_law_draw:FnAt K 384 (topF 47) ["deck","below"] 2 []
 g_law_together:nsIn K mainGlobals "_law_together"=some (some (.ref 436))
 g_law_ordered:nsIn K mainGlobals "_law_ordered"=some (some (.ref 431))
 kp431:keepIn K (.ref 431)=true
 kp436:keepIn K (.ref 436)=true
 g_law_apart:nsIn K mainGlobals "_law_apart"=some (some (.ref 424))
 kp424:keepIn K (.ref 424)=true
 fn_law_apart:FnAt K 424 (topF 54) ["code","is_wide"] 2 []
 fn_law_ordered:FnAt K 431 (topF 55) ["text"] 1 []
 fn_law_together:FnAtC K 436 (topF 56) ["text"] 1
 fn_law_form:FnAt K 443 (topF 57) ["text","word"] 2 []
 fn_law_pick:FnAt K 391 (topF 48) ["deck","some"] 2 []
 b_min:nsIn K mainGlobals "min"=some none
 fn_law_prefix:FnAtC K 448 (topF 58) ["one","other"] 2
 fn_common_prefix:FnAt K 61 (topF 5) ["one","other"] 2 []
 fn_starts_at:FnAt K 68 (topF 6) ["text","part","at"] 3 []
 fn_law:FnAtC K 453 (topF 59) ["script"] 1
section
variable{prog:Program}{w:World}{c:Cfg prog w}(C:c.Ok)(S:SRok c)(D:RDok c)(T:TX c.KS)(U:LamTab c lamP lamQ)
include C S D T U
noncomputable def nl_RangeMap_init:List Str:=["self","default"]
noncomputable def m_RangeMap_init(X:XP):Loc→M (Loc×Fl):=(sq (asg (gt 1) (atA 312 [100,101,102,97,117,108,116] (gt 0))) (sq (asg (lstE (esC (cst (.int 0)) esN)) (atA 312 [115,116,97,114,116,115] (gt 0))) (sq (asg (lstE (esC (gt 1) esN)) (atA 312 [118,97,108,117,101,115] (gt 0))) nextS)))
theorem s_RangeMap_init:SemB c (EC (metF 40 0).scope []) nl_RangeMap_init 0 (metF 40 0).body (m_RangeMap_init c.xp):=bC (aS rN (aA rN T.cs312_default)) (bC (aS (rQ (rE R.cint R.esN)) (aA rN T.cs312_starts)) (bC (aS (rQ (rE rN R.esN)) (aA rN T.cs312_values)) R.bN))
noncomputable def f_RangeMap_init(X:XP):List V→M V:=fnM 2 [] (m_RangeMap_init X)
theorem k_RangeMap_init:SemCode c 1 283 (f_RangeMap_init c.xp):=cA T.fn_RangeMap_init (s_RangeMap_init C S D T U)
noncomputable def nl_Data_map_of:List Str:=["self","name"]
noncomputable def m_Data_map_of(X:XP):Loc→M (Loc×Fl):=(sq (iff' (tst X.SR (binE (gt 1) (attrE 368 [109,97,112,115] (gt 0)) (inM X.SR true))) (sq (asg (callE (esC (methB X.SR 2 (attrE 368 [100,101,102,97,117,108,116,115] (gt 0)) (esC (gt 1) esN) (getB X.SR)) esN) (mkI 312 (f_RangeMap_init X))) (subA (attrE 368 [109,97,112,115] (gt 0)) (gt 1))) nextS) nextS) (sq (rtn (binE (attrE 368 [109,97,112,115] (gt 0)) (gt 1) (getI X.SR))) nextS))
theorem s_Data_map_of:SemB c (EC (metF 44 3).scope []) nl_Data_map_of 2 (metF 44 3).body (m_Data_map_of c.xp):=bC (iF (tC rN (rD rN T.cg368_maps) (op_notIn S)) (bC (aS (rC (Keep.cls T.kp312) (rG T.g_RangeMap) (rE (mB F.plainAttrs_dict F.slot_dict_get (rD rN T.cg368_defaults) (rE rN R.esN) (sem_get S)) R.esN) (SemCall.make C T.mk312 T.in312 T.ty283 ((k_RangeMap_init C S D T U).less (by decide)))) (aB (rD rN T.cg368_maps) rN)) R.bN) R.bN) (bC (SemS.ret (rU (rD rN T.cg368_maps) rN)) R.bN)
noncomputable def f_Data_map_of(X:XP):List V→M V:=fnM 2 [] (m_Data_map_of X)
theorem k_Data_map_of:SemCode c 3 365 (f_Data_map_of c.xp):=cA T.fn_Data_map_of (s_Data_map_of C S D T U)
noncomputable def nl_range_are_like:List Str:=["one","other"]
noncomputable def m_range_are_like(X:XP):Loc→M (Loc×Fl):=(sq (rtn (andE X.SR (binE (gt 0) (gt 1) (eqM X.SR false)) (binE (callE (esC (gt 0) (esC (cst (.ty "bool")) esN)) (isiB)) (callE (esC (gt 1) (esC (cst (.ty "bool")) esN)) (isiB)) (eqM X.SR false)))) nextS)
theorem s_range_are_like:SemB c (EC (topF 39).scope []) nl_range_are_like 0 (topF 39).body (m_range_are_like c.xp):=bC (SemS.ret (SemE.boolop (SemEB.andCons C (rM rN rN (op_eqM S)) (SemEB.one (rM (rC Keep.bi (rB T.b_isinstance) (rE rN (rE (rT T.b_bool) R.esN)) sem_isi) (rC Keep.bi (rB T.b_isinstance) (rE rN (rE (rT T.b_bool) R.esN)) sem_isi) (op_eqM S)))))) R.bN
noncomputable def f_range_are_like(X:XP):List V→M V:=fnM 2 [] (m_range_are_like X)
theorem k_range_are_like:SemCode c 1 269 (f_range_are_like c.xp):=cA T.fn_range_are_like (s_range_are_like C S D T U)
noncomputable def nl_range_rows:List Str:=["range_map","starts","found","at","value","last"]
noncomputable def m_range_rows(X:XP):Loc→M (Loc×Fl):=(sq (asgR (tupE (esC (attrE 312 [115,116,97,114,116,115] (gt 0)) (esC (lstE esN) esN))) [1,2]) (sq (forS (enuI X.SR (esC (attrE 312 [118,97,108,117,101,115] (gt 0)) esN)) (tupA 2 (consA (st' 3) (consA (st' 4) asN))) (sq (asg (iteE (tst X.SR (binE (binE (gt 3) (cst (.int 1)) (addI)) (callE (esC (gt 1) esN) (lenB X.SR)) (cmpI λa b=>decide (a<b)))) (binE (binE (gt 1) (binE (gt 3) (cst (.int 1)) (addI)) (getI X.SR)) (cst (.int 1)) (subI)) (cst (.int 1114111))) (st' 5)) (sq (doE (methB X.SR 1 (gt 2) (esC (tupE (esC (binE (gt 1) (gt 3) (getI X.SR)) (esC (gt 5) (esC (gt 4) esN)))) esN) appB)) nextS)) 1000) (sq (rtn (gt 2)) nextS)))
theorem s_range_rows:SemB c (EC (topF 41).scope []) nl_range_rows 0 (topF 41).body (m_range_rows c.xp):=bC (sW (names:=["starts","found"]) (rP (rE (rD rN T.cg312_starts) (rE (rQ R.esN) R.esN)))) (bC (fR 1000 (R.enuI C S (by kernel_rfl) (rT T.b_enumerate) (rE (rD rN T.cg312_values) R.esN) ⟨_,_,rfl⟩) (SemA.tup C (aC rA (aC rA R.asN)) rfl) (bC (aS (SemE.ifexp C (tC (rO rN R.cint op_add) (rC Keep.bi (rB T.b_len) (rE rN R.esN) (sem_len S)) op_lt) (rO (rU rN (rO rN R.cint op_add)) R.cint op_sub) (rH T.g_MAX_CODE.choose_spec)) rA) (bC (xS (mB F.plainAttrs_list F.slot_list_append rN (rE (rP (rE (rU rN rN) (rE rN (rE rN R.esN)))) R.esN) (sem_append C))) R.bN))) (bC (SemS.ret rN) R.bN))
noncomputable def f_range_rows(X:XP):List V→M V:=fnM 1 [] (m_range_rows X)
theorem k_range_rows:SemCode c 1 323 (f_range_rows c.xp):=cA T.fn_range_rows (s_range_rows C S D T U)
noncomputable def nl_RangeMap_ranges:List Str:=["self"]
noncomputable def m_RangeMap_ranges(X:XP):Loc→M (Loc×Fl):=(sq (rtn (compM (valI X.SR (callE (esC (gt 0) esN) (f_range_rows X))) [(0,0)] (st' 1) (notT (tst X.SR (callE (esC (binE (gt 1) (cst (.int 2)) (getI X.SR)) (esC (attrE 312 [100,101,102,97,117,108,116] (gt 0)) esN)) (f_range_are_like X)))) (gt 1) 1000)) nextS)
theorem s_RangeMap_ranges:SemB c (EC (metF 40 3).scope ["self"]) nl_RangeMap_ranges 1 (metF 40 3).body (m_RangeMap_ranges c.xp):=bC (SemS.ret (SemE.comp (nl':=["self","row"]) (cn':=["self"]) C (vI (rC (Keep.adr T.kp323) (rG T.g_range_rows) (rE rN R.esN) (cD (k_range_rows C S D T U)))) rL (SemTs.one (SemT.not (tV (rC (Keep.adr T.kp269) (rG T.g_range_are_like) (rE (rU rN R.cint) (rE (rD rN T.cg312_default) R.esN)) (cD (k_range_are_like C S D T U)))))) rN (by decide) (by kernel_rfl) (λ_ _=>rfl))) R.bN
noncomputable def f_RangeMap_ranges(X:XP):List V→M V:=fnM 1 [] (m_RangeMap_ranges X)
theorem k_RangeMap_ranges:SemCode c 2 302 (f_RangeMap_ranges c.xp):=SemCode.atC C T.fn_RangeMap_ranges (by kernel_rfl) (λ_=>by kernel_rfl) (by kernel_rfl) (by decide) (by decide) (s_RangeMap_ranges C S D T U) (by kernel_rfl) (by kernel_rfl) (by kernel_rfl)
noncomputable def nl_place_by_half:List Str:=["firsts","number","low","high","middle"]
noncomputable def m_place_by_half(X:XP):Loc→M (Loc×Fl):=(sq (asg (cst (.int 0)) (st' 2)) (sq (asg (callE (esC (gt 0) esN) (lenB X.SR)) (st' 3)) (sq (whileM (tst X.SR (binE (gt 2) (gt 3) (cmpI λa b=>decide (a<b)))) (sq (asg (binE (binE (gt 2) (gt 3) (addI)) (cst (.int 2)) (divI)) (st' 4)) (sq (iff' (tst X.SR (binE (binE (gt 0) (gt 4) (getI X.SR)) (gt 1) (cmpI λa b=>decide (a≤b)))) (sq (asg (binE (gt 4) (cst (.int 1)) (addI)) (st' 2)) nextS) (sq (asg (gt 4) (st' 3)) nextS)) nextS)) 1000) (sq (rtn (binE (gt 2) (cst (.int 1)) (subI))) nextS))))
theorem s_place_by_half:SemB c (EC (topF 7).scope []) nl_place_by_half 0 (topF 7).body (m_place_by_half c.xp):=bC (aS R.cint rA) (bC (aS (rC Keep.bi (rB T.b_len) (rE rN R.esN) (sem_len S)) rA) (bC (SemS.while C 1000 (tC rN rN op_lt) (bC (aS (rO (rO rN rN op_add) R.cint op_div) rA) (bC (iF (tC (rU rN rN) rN op_le) (bC (aS (rO rN R.cint op_add) rA) R.bN) (bC (aS rN rA) R.bN)) R.bN))) (bC (SemS.ret (rO rN R.cint op_sub)) R.bN)))
noncomputable def f_place_by_half(X:XP):List V→M V:=fnM 2 [] (m_place_by_half X)
theorem k_place_by_half:SemCode c 1 75 (f_place_by_half c.xp):=cA T.fn_place_by_half (s_place_by_half C S D T U)
noncomputable def nl_RangeMap_get:List Str:=["self","code"]
noncomputable def m_RangeMap_get(X:XP):Loc→M (Loc×Fl):=(sq (rtn (binE (attrE 312 [118,97,108,117,101,115] (gt 0)) (callE (esC (attrE 312 [115,116,97,114,116,115] (gt 0)) (esC (gt 1) esN)) (f_place_by_half X)) (getI X.SR))) nextS)
theorem s_RangeMap_get:SemB c (EC (metF 40 1).scope []) nl_RangeMap_get 1 (metF 40 1).body (m_RangeMap_get c.xp):=bC (SemS.ret (rU (rD rN T.cg312_values) (rC (Keep.adr T.kp75) (rG T.g_place_by_half) (rE (rD rN T.cg312_starts) (rE rN R.esN)) (cD (k_place_by_half C S D T U))))) R.bN
noncomputable def f_RangeMap_get(X:XP):List V→M V:=fnM 2 [] (m_RangeMap_get X)
theorem k_RangeMap_get:SemCode c 2 290 (f_RangeMap_get c.xp):=cA T.fn_RangeMap_get (s_RangeMap_get C S D T U)
noncomputable def nl_Data_get:List Str:=["self","name","code"]
noncomputable def m_Data_get(X:XP):Loc→M (Loc×Fl):=(sq (iff' (tst X.SR (binE (gt 1) (attrE 368 [109,97,112,115] (gt 0)) (inM X.SR false))) (sq (rtn (Mine.meth 312 [103,101,116] (binE (attrE 368 [109,97,112,115] (gt 0)) (gt 1) (getI X.SR)) (esC (gt 2) esN) (f_RangeMap_get X))) nextS) nextS) (sq (rtn (methB X.SR 2 (attrE 368 [100,101,102,97,117,108,116,115] (gt 0)) (esC (gt 1) esN) (getB X.SR))) nextS))
theorem s_Data_get:SemB c (EC (metF 44 2).scope []) nl_Data_get 2 (metF 44 2).body (m_Data_get c.xp):=bC (iF (tC rN (rD rN T.cg368_maps) (op_in S)) (bC (SemS.ret (mE T.cm312_get T.kp290 (rU (rD rN T.cg368_maps) rN) (rE rN R.esN) (cD (k_RangeMap_get C S D T U)))) R.bN) R.bN) (bC (SemS.ret (mB F.plainAttrs_dict F.slot_dict_get (rD rN T.cg368_defaults) (rE rN R.esN) (sem_get S))) R.bN)
noncomputable def f_Data_get(X:XP):List V→M V:=fnM 3 [] (m_Data_get X)
theorem k_Data_get:SemCode c 3 358 (f_Data_get c.xp):=cA T.fn_Data_get (s_Data_get C S D T U)
noncomputable def nl_hangul_numbers:List Str:=["code","number"]
noncomputable def m_hangul_numbers(X:XP):Loc→M (Loc×Fl):=(sq (asg (binE (gt 0) (cst (.int 44032)) (subI)) (st' 1)) (sq (rtn (tupE (esC (binE (gt 1) (binE (cst (.int 21)) (cst (.int 28)) (mulI)) (divI)) (esC (binE (binE (gt 1) (cst (.int 28)) (divI)) (cst (.int 21)) (modI)) (esC (binE (gt 1) (cst (.int 28)) (modI)) esN))))) nextS))
theorem s_hangul_numbers:SemB c (EC (topF 18).scope []) nl_hangul_numbers 0 (topF 18).body (m_hangul_numbers c.xp):=bC (aS (rO rN (rH T.g_SYLLABLE_FIRST.choose_spec) op_sub) rA) (bC (SemS.ret (rP (rE (rO rN (rO (rH T.g_VOWELS.choose_spec) (rH T.g_TAILS.choose_spec) op_mul) op_div) (rE (rO (rO rN (rH T.g_TAILS.choose_spec) op_div) (rH T.g_VOWELS.choose_spec) op_mod) (rE (rO rN (rH T.g_TAILS.choose_spec) op_mod) R.esN))))) R.bN)
noncomputable def f_hangul_numbers(X:XP):List V→M V:=fnM 1 [] (m_hangul_numbers X)
theorem k_hangul_numbers:SemCode c 1 89 (f_hangul_numbers c.xp):=cA T.fn_hangul_numbers (s_hangul_numbers C S D T U)
noncomputable def nl_is_hangul_syllable:List Str:=["code"]
noncomputable def m_is_hangul_syllable(X:XP):Loc→M (Loc×Fl):=(sq (rtn (chainE X.SR (cst (.int 0)) (binE (gt 0) (cst (.int 44032)) (subI)) (cst (.int 11172)) (cmpI λa b=>decide (a≤b)) (cmpI λa b=>decide (a<b)))) nextS)
theorem s_is_hangul_syllable:SemB c (EC (topF 17).scope []) nl_is_hangul_syllable 0 (topF 17).body (m_is_hangul_syllable c.xp):=bC (SemS.ret (SemE.chain C R.cint (rO rN (rH T.g_SYLLABLE_FIRST.choose_spec) op_sub) (rH T.g_SYLLABLES.choose_spec) op_le op_lt (by kernel_rfl))) R.bN
noncomputable def f_is_hangul_syllable(X:XP):List V→M V:=fnM 1 [] (m_is_hangul_syllable X)
theorem k_is_hangul_syllable:SemCode c 1 82 (f_is_hangul_syllable c.xp):=cA T.fn_is_hangul_syllable (s_is_hangul_syllable C S D T U)
noncomputable def nl_hangul_parts:List Str:=["code","lead","vowel","tail"]
noncomputable def m_hangul_parts(X:XP):Loc→M (Loc×Fl):=(sq (iff' (notT (tst X.SR (callE (esC (gt 0) esN) (f_is_hangul_syllable X)))) (sq (rtn (cst .none)) nextS) nextS) (sq (asg (callE (esC (gt 0) esN) (f_hangul_numbers X)) (tupA 3 (consA (st' 1) (consA (st' 2) (consA (st' 3) asN))))) (sq (iff' (tst X.SR (binE (gt 3) (cst (.int 0)) (eqM X.SR false))) (sq (rtn (tupE (esC (binE (cst (.int 4352)) (gt 1) (addI)) (esC (binE (cst (.int 4449)) (gt 2) (addI)) esN)))) nextS) nextS) (sq (rtn (tupE (esC (binE (cst (.int 4352)) (gt 1) (addI)) (esC (binE (cst (.int 4449)) (gt 2) (addI)) (esC (binE (cst (.int 4519)) (gt 3) (addI)) esN))))) nextS))))
theorem s_hangul_parts:SemB c (EC (topF 19).scope []) nl_hangul_parts 1 (topF 19).body (m_hangul_parts c.xp):=bC (iF (SemT.not (tV (rC (Keep.adr T.kp82) (rG T.g_is_hangul_syllable) (rE rN R.esN) (cD (k_is_hangul_syllable C S D T U))))) (bC (SemS.ret R.cnone) R.bN) R.bN) (bC (aS (rC (Keep.adr T.kp89) (rG T.g_hangul_numbers) (rE rN R.esN) (cD (k_hangul_numbers C S D T U))) (SemA.tup C (aC rA (aC rA (aC rA R.asN))) rfl)) (bC (iF (tC rN R.cint (op_eqM S)) (bC (SemS.ret (rP (rE (rO (rH T.g_LEAD_FIRST.choose_spec) rN op_add) (rE (rO (rH T.g_VOWEL_FIRST.choose_spec) rN op_add) R.esN)))) R.bN) R.bN) (bC (SemS.ret (rP (rE (rO (rH T.g_LEAD_FIRST.choose_spec) rN op_add) (rE (rO (rH T.g_VOWEL_FIRST.choose_spec) rN op_add) (rE (rO (rH T.g_TAIL_NONE.choose_spec) rN op_add) R.esN))))) R.bN)))
noncomputable def f_hangul_parts(X:XP):List V→M V:=fnM 1 [] (m_hangul_parts X)
theorem k_hangul_parts:SemCode c 2 96 (f_hangul_parts c.xp):=cA T.fn_hangul_parts (s_hangul_parts C S D T U)
noncomputable def nl_form_is_primary:List Str:=["code","parts","data"]
noncomputable def m_form_is_primary(X:XP):Loc→M (Loc×Fl):=(sq (iff' (orT (tst X.SR (Mine.meth 368 [103,101,116] (gt 2) (esC (cst (.str [101,120])) (esC (gt 0) esN)) (pureM X.RD X.B (f_Data_get X)))) (orT (tst X.SR (binE (callE (esC (gt 0) esN) (f_hangul_parts X)) (cst .none) (isNone true))) falseT)) (sq (rtn (cst (.bool false))) nextS) nextS) (sq (rtn (andE X.SR (binE (Mine.meth 368 [103,101,116] (gt 2) (esC (cst (.str [99,99,99])) (esC (gt 0) esN)) (pureM X.RD X.B (f_Data_get X))) (cst (.int 0)) (eqM X.SR false)) (binE (Mine.meth 368 [103,101,116] (gt 2) (esC (cst (.str [99,99,99])) (esC (binE (gt 1) (cst (.int 0)) (getI X.SR)) esN)) (pureM X.RD X.B (f_Data_get X))) (cst (.int 0)) (eqM X.SR false)))) nextS))
theorem s_form_is_primary:SemB c (EC (topF 28).scope []) nl_form_is_primary 3 (topF 28).body (m_form_is_primary c.xp):=bC (iF (SemT.boolop (tO (tV (mE T.cm368_get T.kp358 rN (rE rS (rE rN R.esN)) (cP (cD (k_Data_get C S D T U))))) (tO (tC (rC (Keep.adr T.kp96) (rG T.g_hangul_parts) (rE rN R.esN) (cD (k_hangul_parts C S D T U))) R.cnone op_isNot) R.orN))) (bC (SemS.ret R.cbool) R.bN) R.bN) (bC (SemS.ret (SemE.boolop (SemEB.andCons C (rM (mE T.cm368_get T.kp358 rN (rE rS (rE rN R.esN)) (cP (cD (k_Data_get C S D T U)))) R.cint (op_eqM S)) (SemEB.one (rM (mE T.cm368_get T.kp358 rN (rE rS (rE (rU rN R.cint) R.esN)) (cP (cD (k_Data_get C S D T U)))) R.cint (op_eqM S)))))) R.bN)
noncomputable def f_form_is_primary(X:XP):List V→M V:=fnM 3 [] (m_form_is_primary X)
theorem k_form_is_primary:SemCode c 4 151 (f_form_is_primary c.xp):=cA T.fn_form_is_primary (s_form_is_primary C S D T U)
noncomputable def nl_primary_composites:List Str:=["data","found","first","last","told","code"]
noncomputable def m_primary_composites(X:XP):Loc→M (Loc×Fl):=(sq (asg (newD 2) (st' 1)) (sq (forS (valI X.SR (Mine.meth 312 [114,97,110,103,101,115] (Mine.meth 368 [109,97,112,95,111,102] (gt 0) (esC (cst (.str [100,109])) esN) (f_Data_map_of X)) esN (f_RangeMap_ranges X))) (tupA 3 (consA (st' 2) (consA (st' 3) (consA (st' 4) asN)))) (sq (iff' (orT (tst X.SR (binE (gt 4) (cst .none) (isNone false))) (orT (tst X.SR (binE (binE (gt 4) (cst (.int 0)) (getI X.SR)) (cst (.str [])) (eqM X.SR true))) (orT (tst X.SR (binE (callE (esC (binE (gt 4) (cst (.int 1)) (getI X.SR)) esN) (lenB X.SR)) (cst (.int 2)) (eqM X.SR true))) falseT))) (sq contS nextS) nextS) (sq (forS (rngI' (esC (gt 2) (esC (binE (gt 3) (cst (.int 1)) (addI)) esN))) (st' 5) (sq (iff' (andT (tst X.SR (callE (esC (gt 5) (esC (binE (gt 4) (cst (.int 1)) (getI X.SR)) (esC (gt 0) esN))) (f_form_is_primary X))) (andT (tst X.SR (binE (binE (gt 4) (cst (.int 1)) (getI X.SR)) (gt 1) (inM X.SR true))) trueT)) (sq (asg (gt 5) (subA (gt 1) (binE (gt 4) (cst (.int 1)) (getI X.SR)))) nextS) nextS) nextS) 1000) nextS)) 1000) (sq (rtn (gt 1)) nextS)))
theorem s_primary_composites:SemB c (EC (topF 27).scope []) nl_primary_composites 4 (topF 27).body (m_primary_composites c.xp):=bC (aS (SemE.disp0 2 C) rA) (bC (fR 1000 (vI (mE T.cm312_ranges T.kp302 (mE T.cm368_map_of T.kp365 rN (rE rS R.esN) (cD (k_Data_map_of C S D T U))) R.esN (cD (k_RangeMap_ranges C S D T U)))) (SemA.tup C (aC rA (aC rA (aC rA R.asN))) rfl) (bC (iF (SemT.boolop (tO (tC rN R.cnone op_is) (tO (tC (rU rN R.cint) rS (op_neM S)) (tO (tC (rC Keep.bi (rB T.b_len) (rE (rU rN R.cint) R.esN) (sem_len S)) R.cint (op_neM S)) R.orN)))) (bC R.cont R.bN) R.bN) (bC (fR 1000 (R.rngI C (by kernel_rfl) (rT T.b_range) (rE rN (rE (rO rN R.cint op_add) R.esN)) ⟨_,_,rfl⟩) rA (bC (iF (SemT.boolop (tA (tV (rC (Keep.adr T.kp151) (rG T.g_form_is_primary) (rE rN (rE (rU rN R.cint) (rE rN R.esN))) (cD (k_form_is_primary C S D T U)))) (tA (tC (rU rN R.cint) rN (op_notIn S)) R.andN))) (bC (aS rN (aB rN (rU rN R.cint))) R.bN) R.bN) R.bN)) R.bN))) (bC (SemS.ret rN) R.bN))
noncomputable def f_primary_composites(X:XP):List V→M V:=fnM 1 [] (m_primary_composites X)
theorem k_primary_composites:SemCode c 5 144 (f_primary_composites c.xp):=cA T.fn_primary_composites (s_primary_composites C S D T U)
noncomputable def nl_Composer_init:List Str:=["self","data","one","other"]
noncomputable def m_Composer_init(X:XP):Loc→M (Loc×Fl):=(sq (asg (callE (esC (gt 1) esN) (f_primary_composites X)) (atA 182 [112,97,105,114,115] (gt 0))) (sq (asg (newD 1) (atA 182 [115,101,99,111,110,100,115] (gt 0))) (sq (forS (valI X.SR (attrE 182 [112,97,105,114,115] (gt 0))) (tupA 2 (consA (st' 2) (consA (st' 3) asN))) (sq (asg (cst (.bool true)) (subA (attrE 182 [115,101,99,111,110,100,115] (gt 0)) (gt 3))) nextS) 1000) nextS)))
theorem s_Composer_init:SemB c (EC (metF 29 0).scope []) nl_Composer_init 5 (metF 29 0).body (m_Composer_init c.xp):=bC (aS (rC (Keep.adr T.kp144) (rG T.g_primary_composites) (rE rN R.esN) (cD (k_primary_composites C S D T U))) (aA rN T.cs182_pairs)) (bC (aS (SemE.disp0 1 C) (aA rN T.cs182_seconds)) (bC (fR 1000 (vI (rD rN T.cg182_pairs)) (SemA.tup C (aC rA (aC rA R.asN)) rfl) (bC (aS R.cbool (aB (rD rN T.cg182_seconds) rN)) R.bN)) R.bN))
noncomputable def f_Composer_init(X:XP):List V→M V:=fnM 2 [] (m_Composer_init X)
theorem k_Composer_init:SemCode c 6 165 (f_Composer_init c.xp):=cA T.fn_Composer_init (s_Composer_init C S D T U)
noncomputable def nl_stream_composer:List Str:=["data","word","composer"]
noncomputable def m_stream_composer(X:XP):Loc→M (Loc×Fl):=(sq (iff' (tst X.SR (binE (gt 1) (cst (.tup [.str [110,102,100],.str [110,102,107,100]])) (inM X.SR false))) (sq (rtn (cst .none)) nextS) nextS) (sq (rtn (iteE (tst X.SR (binE (gt 2) (cst .none) (isNone false))) (callE (esC (gt 0) esN) (mkI 182 (f_Composer_init X))) (gt 2))) nextS))
theorem s_stream_composer:SemB c (EC (topF 35).scope []) nl_stream_composer 7 (topF 35).body (m_stream_composer c.xp):=bC (iF (tC rN (R.glob C (by kernel_rfl) T.g_DECOMPOSED.choose_spec.1 T.g_DECOMPOSED.choose_spec.2 (by kernel_rfl)) (op_in S)) (bC (SemS.ret R.cnone) R.bN) R.bN) (bC (SemS.ret (SemE.ifexp C (tC rN R.cnone op_is) (rC (Keep.cls T.kp182) (rG T.g_Composer) (rE rN R.esN) (SemCall.make C T.mk182 T.in182 T.ty165 ((k_Composer_init C S D T U).less (by decide)))) rN)) R.bN)
noncomputable def f_stream_composer(X:XP):List V→M V:=fnM 3 [] (m_stream_composer X)
theorem k_stream_composer:SemCode c 8 211 (f_stream_composer c.xp):=cA T.fn_stream_composer (s_stream_composer C S D T U)
noncomputable def nl_FormStream_init:List Str:=["self","data","word","composer"]
noncomputable def m_FormStream_init(X:XP):Loc→M (Loc×Fl):=(sq (asg (gt 1) (atA 258 [100,97,116,97] (gt 0))) (sq (asg (gt 2) (atA 258 [119,111,114,100] (gt 0))) (sq (asg (callE (esC (gt 1) (esC (gt 2) (esC (gt 3) esN))) (f_stream_composer X)) (atA 258 [99,111,109,112,111,115,101,114] (gt 0))) (sq (asg (lstE esN) (atA 258 [104,101,108,100] (gt 0))) nextS))))
theorem s_FormStream_init:SemB c (EC (metF 37 0).scope []) nl_FormStream_init 8 (metF 37 0).body (m_FormStream_init c.xp):=bC (aS rN (aA rN T.cs258_data)) (bC (aS rN (aA rN T.cs258_word)) (bC (aS (rC (Keep.adr T.kp211) (rG T.g_stream_composer) (rE rN (rE rN (rE rN R.esN))) (cD (k_stream_composer C S D T U))) (aA rN T.cs258_composer)) (bC (aS (rQ R.esN) (aA rN T.cs258_held)) R.bN)))
noncomputable def f_FormStream_init(X:XP):List V→M V:=fnM 3 [.none] (m_FormStream_init X)
theorem k_FormStream_init:SemCode c 9 234 (f_FormStream_init c.xp):=SemCode.at C T.fn_FormStream_init (by kernel_rfl) (by kernel_rfl) (by kernel_rfl) (by decide) (by decide) (λ_ _ _=>.cons .none .nil) (s_FormStream_init C S D T U) (by kernel_rfl) (by kernel_rfl) (by kernel_rfl)
noncomputable def nl_hangul_pair:List Str:=["one","other","lead","vowel"]
noncomputable def m_hangul_pair(X:XP):Loc→M (Loc×Fl):=(sq (asg (binE (gt 0) (cst (.int 4352)) (subI)) (st' 2)) (sq (asg (binE (gt 1) (cst (.int 4449)) (subI)) (st' 3)) (sq (iff' (andT (tst X.SR (chainE X.SR (cst (.int 0)) (gt 2) (cst (.int 19)) (cmpI λa b=>decide (a≤b)) (cmpI λa b=>decide (a<b)))) (andT (tst X.SR (chainE X.SR (cst (.int 0)) (gt 3) (cst (.int 21)) (cmpI λa b=>decide (a≤b)) (cmpI λa b=>decide (a<b)))) trueT)) (sq (rtn (binE (cst (.int 44032)) (binE (binE (binE (gt 2) (cst (.int 21)) (mulI)) (gt 3) (addI)) (cst (.int 28)) (mulI)) (addI))) nextS) nextS) (sq (iff' (andT (tst X.SR (callE (esC (gt 0) esN) (f_is_hangul_syllable X))) (andT (tst X.SR (binE (binE (binE (gt 0) (cst (.int 44032)) (subI)) (cst (.int 28)) (modI)) (cst (.int 0)) (eqM X.SR false))) (andT (tst X.SR (chainE X.SR (cst (.int 0)) (binE (gt 1) (cst (.int 4519)) (subI)) (cst (.int 28)) (cmpI λa b=>decide (a<b)) (cmpI λa b=>decide (a<b)))) trueT))) (sq (rtn (binE (binE (gt 0) (gt 1) (addI)) (cst (.int 4519)) (subI))) nextS) nextS) (sq (rtn (cst .none)) nextS)))))
theorem s_hangul_pair:SemB c (EC (topF 20).scope []) nl_hangul_pair 1 (topF 20).body (m_hangul_pair c.xp):=bC (aS (rO rN (rH T.g_LEAD_FIRST.choose_spec) op_sub) rA) (bC (aS (rO rN (rH T.g_VOWEL_FIRST.choose_spec) op_sub) rA) (bC (iF (SemT.boolop (tA (SemT.chain C R.cint rN (rH T.g_LEADS.choose_spec) op_le op_lt (by kernel_rfl)) (tA (SemT.chain C R.cint rN (rH T.g_VOWELS.choose_spec) op_le op_lt (by kernel_rfl)) R.andN))) (bC (SemS.ret (rO (rH T.g_SYLLABLE_FIRST.choose_spec) (rO (rO (rO rN (rH T.g_VOWELS.choose_spec) op_mul) rN op_add) (rH T.g_TAILS.choose_spec) op_mul) op_add)) R.bN) R.bN) (bC (iF (SemT.boolop (tA (tV (rC (Keep.adr T.kp82) (rG T.g_is_hangul_syllable) (rE rN R.esN) (cD (k_is_hangul_syllable C S D T U)))) (tA (tC (rO (rO rN (rH T.g_SYLLABLE_FIRST.choose_spec) op_sub) (rH T.g_TAILS.choose_spec) op_mod) R.cint (op_eqM S)) (tA (SemT.chain C R.cint (rO rN (rH T.g_TAIL_NONE.choose_spec) op_sub) (rH T.g_TAILS.choose_spec) op_lt op_lt (by kernel_rfl)) R.andN)))) (bC (SemS.ret (rO (rO rN rN op_add) (rH T.g_TAIL_NONE.choose_spec) op_sub)) R.bN) R.bN) (bC (SemS.ret R.cnone) R.bN))))
noncomputable def f_hangul_pair(X:XP):List V→M V:=fnM 2 [] (m_hangul_pair X)
theorem k_hangul_pair:SemCode c 2 103 (f_hangul_pair c.xp):=cA T.fn_hangul_pair (s_hangul_pair C S D T U)
noncomputable def nl_Composer_pair:List Str:=["self","one","other","found"]
noncomputable def m_Composer_pair(X:XP):Loc→M (Loc×Fl):=(sq (asg (callE (esC (gt 1) (esC (gt 2) esN)) (f_hangul_pair X)) (st' 3)) (sq (rtn (iteE (tst X.SR (binE (gt 3) (cst .none) (isNone true))) (gt 3) (methB X.SR 2 (attrE 182 [112,97,105,114,115] (gt 0)) (esC (tupE (esC (gt 1) (esC (gt 2) esN))) (esC (cst .none) esN)) (getB X.SR)))) nextS))
theorem s_Composer_pair:SemB c (EC (metF 29 1).scope []) nl_Composer_pair 2 (metF 29 1).body (m_Composer_pair c.xp):=bC (aS (rC (Keep.adr T.kp103) (rG T.g_hangul_pair) (rE rN (rE rN R.esN)) (cD (k_hangul_pair C S D T U))) rA) (bC (SemS.ret (SemE.ifexp C (tC rN R.cnone op_isNot) rN (mB F.plainAttrs_dict F.slot_dict_get (rD rN T.cg182_pairs) (rE (rP (rE rN (rE rN R.esN))) (rE R.cnone R.esN)) (sem_get S)))) R.bN)
noncomputable def f_Composer_pair(X:XP):List V→M V:=fnM 3 [] (m_Composer_pair X)
theorem k_Composer_pair:SemCode c 3 172 (f_Composer_pair c.xp):=cA T.fn_Composer_pair (s_Composer_pair C S D T U)
noncomputable def nl_composed:List Str:=["text","data","composer","found","starter","most","code","weight","pair"]
noncomputable def m_composed(X:XP):Loc→M (Loc×Fl):=(sq (asg (iteE (tst X.SR (binE (gt 2) (cst .none) (isNone false))) (callE (esC (gt 1) esN) (mkI 182 (f_Composer_init X))) (gt 2)) (st' 2)) (sq (asgR (tupE (esC (lstE esN) (esC (negE (cst (.int 1))) (esC (negE (cst (.int 1))) esN)))) [3,4,5]) (sq (forS (valI X.SR (gt 0)) (st' 6) (sq (asg (Mine.meth 368 [103,101,116] (gt 1) (esC (cst (.str [99,99,99])) (esC (gt 6) esN)) (pureM X.RD X.B (f_Data_get X))) (st' 7)) (sq (iff' (andT (tst X.SR (binE (gt 4) (cst (.int 0)) (cmpI λa b=>decide (b≤a)))) (andT (orT (tst X.SR (binE (gt 4) (binE (callE (esC (gt 3) esN) (lenB X.SR)) (cst (.int 1)) (subI)) (eqM X.SR false))) (orT (tst X.SR (binE (gt 5) (gt 7) (cmpI λa b=>decide (a<b)))) falseT)) trueT)) (sq (asg (Mine.meth 182 [112,97,105,114] (gt 2) (esC (binE (gt 3) (gt 4) (getI X.SR)) (esC (gt 6) esN)) (pureM X.RD X.B (f_Composer_pair X))) (st' 8)) (sq (iff' (tst X.SR (binE (gt 8) (cst .none) (isNone true))) (sq (asg (gt 8) (subA (gt 3) (gt 4))) (sq contS nextS)) nextS) nextS)) nextS) (sq (iff' (tst X.SR (binE (gt 7) (cst (.int 0)) (eqM X.SR false))) (sq (asgR (tupE (esC (callE (esC (gt 3) esN) (lenB X.SR)) (esC (negE (cst (.int 1))) esN))) [4,5]) nextS) (sq (asg (callE (esC (gt 5) (esC (gt 7) esN)) (maxB X.SR)) (st' 5)) nextS)) (sq (doE (methB X.SR 1 (gt 3) (esC (gt 6) esN) appB)) nextS)))) 1000) (sq (rtn (gt 3)) nextS))))
theorem s_composed:SemB c (EC (topF 30).scope []) nl_composed 7 (topF 30).body (m_composed c.xp):=bC (aS (SemE.ifexp C (tC rN R.cnone op_is) (rC (Keep.cls T.kp182) (rG T.g_Composer) (rE rN R.esN) (SemCall.make C T.mk182 T.in182 T.ty165 ((k_Composer_init C S D T U).less (by decide)))) rN) rA) (bC (sW (names:=["found","starter","most"]) (rP (rE (rQ R.esN) (rE (SemE.neg R.cint) (rE (SemE.neg R.cint) R.esN))))) (bC (fR 1000 (vI rN) rA (bC (aS (mE T.cm368_get T.kp358 rN (rE rS (rE rN R.esN)) (cP (cD (k_Data_get C S D T U)))) rA) (bC (iF (SemT.boolop (tA (tC rN R.cint op_ge) (tA (SemT.boolop (tO (tC rN (rO (rC Keep.bi (rB T.b_len) (rE rN R.esN) (sem_len S)) R.cint op_sub) (op_eqM S)) (tO (tC rN rN op_lt) R.orN))) R.andN))) (bC (aS (mE T.cm182_pair T.kp172 rN (rE (rU rN rN) (rE rN R.esN)) (cP (cD (k_Composer_pair C S D T U)))) rA) (bC (iF (tC rN R.cnone op_isNot) (bC (aS rN (aB rN rN)) (bC R.cont R.bN)) R.bN) R.bN)) R.bN) (bC (iF (tC rN R.cint (op_eqM S)) (bC (sW (names:=["starter","most"]) (rP (rE (rC Keep.bi (rB T.b_len) (rE rN R.esN) (sem_len S)) (rE (SemE.neg R.cint) R.esN)))) R.bN) (bC (aS (rC Keep.bi (rB T.b_max) (rE rN (rE rN R.esN)) (sem_max C S)) rA) R.bN)) (bC (xS (mB F.plainAttrs_list F.slot_list_append rN (rE rN R.esN) (sem_append C))) R.bN))))) (bC (SemS.ret rN) R.bN)))
noncomputable def f_composed(X:XP):List V→M V:=fnM 3 [] (m_composed X)
theorem k_composed:SemCode c 8 194 (f_composed c.xp):=cA T.fn_composed (s_composed C S D T U)
noncomputable def nl_form_mapping:List Str:=["code","data","is_compat","parts","told"]
noncomputable def m_form_mapping(X:XP):Loc→M (Loc×Fl):=(sq (asg (callE (esC (gt 0) esN) (f_hangul_parts X)) (st' 3)) (sq (iff' (tst X.SR (binE (gt 3) (cst .none) (isNone true))) (sq (rtn (gt 3)) nextS) nextS) (sq (asg (Mine.meth 368 [103,101,116] (gt 1) (esC (cst (.str [100,109])) (esC (gt 0) esN)) (pureM X.RD X.B (f_Data_get X))) (st' 4)) (sq (iff' (orT (tst X.SR (binE (gt 4) (cst .none) (isNone false))) (orT (andT (tst X.SR (binE (binE (gt 4) (cst (.int 0)) (getI X.SR)) (cst (.str [])) (eqM X.SR true))) (andT (notT (tst X.SR (gt 2))) trueT)) falseT)) (sq (rtn (cst .none)) nextS) nextS) (sq (rtn (binE (gt 4) (cst (.int 1)) (getI X.SR))) nextS)))))
theorem s_form_mapping:SemB c (EC (topF 22).scope []) nl_form_mapping 3 (topF 22).body (m_form_mapping c.xp):=bC (aS (rC (Keep.adr T.kp96) (rG T.g_hangul_parts) (rE rN R.esN) (cD (k_hangul_parts C S D T U))) rA) (bC (iF (tC rN R.cnone op_isNot) (bC (SemS.ret rN) R.bN) R.bN) (bC (aS (mE T.cm368_get T.kp358 rN (rE rS (rE rN R.esN)) (cP (cD (k_Data_get C S D T U)))) rA) (bC (iF (SemT.boolop (tO (tC rN R.cnone op_is) (tO (SemT.boolop (tA (tC (rU rN R.cint) rS (op_neM S)) (tA (SemT.not (tV rN)) R.andN))) R.orN))) (bC (SemS.ret R.cnone) R.bN) R.bN) (bC (SemS.ret (rU rN R.cint)) R.bN))))
noncomputable def f_form_mapping(X:XP):List V→M V:=fnM 3 [] (m_form_mapping X)
theorem k_form_mapping:SemCode c 4 110 (f_form_mapping c.xp):=cA T.fn_form_mapping (s_form_mapping C S D T U)
noncomputable def nl_form_expanded:List Str:=["code","data","is_compat","found","waiting","open_codes","here","parts","part"]
noncomputable def m_form_expanded(X:XP):Loc→M (Loc×Fl):=(sq (asg (lstE esN) (st' 3)) (sq (asgR (tupE (esC (lstE (esC (gt 0) esN)) (esC (lstE esN) esN))) [4,5]) (sq (whileM (tst X.SR (binE (gt 4) (lstE esN) (eqM X.SR true))) (sq (asg (methB X.SR 1 (gt 4) esN popB) (st' 6)) (sq (iff' (tst X.SR (binE (gt 6) (cst .none) (isNone false))) (sq (doE (methB X.SR 1 (gt 5) esN popB)) (sq contS nextS)) nextS) (sq (asg (callE (esC (gt 6) (esC (gt 1) (esC (gt 2) esN))) (f_form_mapping X)) (st' 7)) (sq (iff' (tst X.SR (binE (gt 7) (cst .none) (isNone false))) (sq (doE (methB X.SR 1 (gt 3) (esC (gt 6) esN) appB)) nextS) (sq (iff' (tst X.SR (binE (gt 6) (gt 5) (inM X.SR false))) (sq nofS nextS) (sq (doE (methB X.SR 1 (gt 5) (esC (gt 6) esN) appB)) (sq (doE (methB X.SR 1 (gt 4) (esC (cst .none) esN) appB)) (sq (forS (valI X.SR (revE X.SR (gt 7) (someP (negE (cst (.int 1)))))) (st' 8) (sq (doE (methB X.SR 1 (gt 4) (esC (gt 8) esN) appB)) nextS) 1000) nextS)))) nextS)) nextS)))) 1000) (sq (rtn (gt 3)) nextS))))
theorem s_form_expanded:SemB c (EC (topF 23).scope []) nl_form_expanded 4 (topF 23).body (m_form_expanded c.xp):=bC (aS (rQ R.esN) rA) (bC (sW (names:=["waiting","open_codes"]) (rP (rE (rQ (rE rN R.esN)) (rE (rQ R.esN) R.esN)))) (bC (SemS.while C 1000 (tC rN (rQ R.esN) (op_neM S)) (bC (aS (mB F.plainAttrs_list F.slot_list_pop rN R.esN (sem_pop C)) rA) (bC (iF (tC rN R.cnone op_is) (bC (xS (mB F.plainAttrs_list F.slot_list_pop rN R.esN (sem_pop C))) (bC R.cont R.bN)) R.bN) (bC (aS (rC (Keep.adr T.kp110) (rG T.g_form_mapping) (rE rN (rE rN (rE rN R.esN))) (cD (k_form_mapping C S D T U))) rA) (bC (iF (tC rN R.cnone op_is) (bC (xS (mB F.plainAttrs_list F.slot_list_append rN (rE rN R.esN) (sem_append C))) R.bN) (bC (iF (tC rN rN (op_in S)) (bC R.nofS R.bN) (bC (xS (mB F.plainAttrs_list F.slot_list_append rN (rE rN R.esN) (sem_append C))) (bC (xS (mB F.plainAttrs_list F.slot_list_append rN (rE R.cnone R.esN) (sem_append C))) (bC (fR 1000 (vI (SemE.rev C S rN (SemP.some (SemE.neg R.cint)) (λ_ _=>rfl))) rA (bC (xS (mB F.plainAttrs_list F.slot_list_append rN (rE rN R.esN) (sem_append C))) R.bN)) R.bN)))) R.bN)) R.bN))))) (bC (SemS.ret rN) R.bN)))
noncomputable def f_form_expanded(X:XP):List V→M V:=fnM 3 [] (m_form_expanded X)
theorem k_form_expanded:SemCode c 5 117 (f_form_expanded c.xp):=cA T.fn_form_expanded (s_form_expanded C S D T U)
theorem k_form_sorted:SemCode c 4 129 (f_form_sorted c.xp):=k_form_sortedG C S T.fn_form_sorted T.b_sorted U
noncomputable def nl_ordered:List Str:=["text","data","found","run","code","weight"]
noncomputable def m_ordered(X:XP):Loc→M (Loc×Fl):=(sq (asgR (tupE (esC (lstE esN) (esC (lstE esN) esN))) [2,3]) (sq (forS (valI X.SR (gt 0)) (st' 4) (sq (asg (Mine.meth 368 [103,101,116] (gt 1) (esC (cst (.str [99,99,99])) (esC (gt 4) esN)) (pureM X.RD X.B (f_Data_get X))) (st' 5)) (sq (iff' (tst X.SR (binE (gt 5) (cst (.int 0)) (cmpI λa b=>decide (b<a)))) (sq (doE (methB X.SR 1 (gt 3) (esC (tupE (esC (gt 5) (esC (gt 4) esN))) esN) appB)) nextS) (sq (doE (methB X.SR 1 (gt 2) (esC (callE (esC (gt 3) esN) (pureM X.RD X.B (f_form_sorted X))) esN) (extB X.SR))) (sq (doE (methB X.SR 1 (gt 2) (esC (gt 4) esN) appB)) (sq (asg (lstE esN) (st' 3)) nextS)))) nextS)) 1000) (sq (doE (methB X.SR 1 (gt 2) (esC (callE (esC (gt 3) esN) (pureM X.RD X.B (f_form_sorted X))) esN) (extB X.SR))) (sq (rtn (gt 2)) nextS))))
theorem s_ordered:SemB c (EC (topF 24).scope []) nl_ordered 4 (topF 24).body (m_ordered c.xp):=bC (sW (names:=["found","run"]) (rP (rE (rQ R.esN) (rE (rQ R.esN) R.esN)))) (bC (fR 1000 (vI rN) rA (bC (aS (mE T.cm368_get T.kp358 rN (rE rS (rE rN R.esN)) (cP (cD (k_Data_get C S D T U)))) rA) (bC (iF (tC rN R.cint op_gt) (bC (xS (mB F.plainAttrs_list F.slot_list_append rN (rE (rP (rE rN (rE rN R.esN))) R.esN) (sem_append C))) R.bN) (bC (xS (mB F.plainAttrs_list F.slot_list_extend rN (rE (rC (Keep.adr T.kp129) (rG T.g_form_sorted) (rE rN R.esN) (cP (cD (k_form_sorted C S D T U)))) R.esN) (sem_extend C S))) (bC (xS (mB F.plainAttrs_list F.slot_list_append rN (rE rN R.esN) (sem_append C))) (bC (aS (rQ R.esN) rA) R.bN)))) R.bN))) (bC (xS (mB F.plainAttrs_list F.slot_list_extend rN (rE (rC (Keep.adr T.kp129) (rG T.g_form_sorted) (rE rN R.esN) (cP (cD (k_form_sorted C S D T U)))) R.esN) (sem_extend C S))) (bC (SemS.ret rN) R.bN)))
noncomputable def f_ordered(X:XP):List V→M V:=fnM 2 [] (m_ordered X)
theorem k_ordered:SemCode c 5 124 (f_ordered c.xp):=cA T.fn_ordered (s_ordered C S D T U)
noncomputable def nl_decomposed:List Str:=["text","data","is_compat","found","code"]
noncomputable def m_decomposed(X:XP):Loc→M (Loc×Fl):=(sq (asg (lstE esN) (st' 3)) (sq (forS (valI X.SR (gt 0)) (st' 4) (sq (doE (methB X.SR 1 (gt 3) (esC (callE (esC (gt 4) (esC (gt 1) (esC (gt 2) esN))) (pureM X.RD X.B (f_form_expanded X))) esN) (extB X.SR))) nextS) 1000) (sq (rtn (callE (esC (gt 3) (esC (gt 1) esN)) (pureM X.RD X.B (f_ordered X)))) nextS)))
theorem s_decomposed:SemB c (EC (topF 26).scope []) nl_decomposed 5 (topF 26).body (m_decomposed c.xp):=bC (aS (rQ R.esN) rA) (bC (fR 1000 (vI rN) rA (bC (xS (mB F.plainAttrs_list F.slot_list_extend rN (rE (rC (Keep.adr T.kp117) (rG T.g_form_expanded) (rE rN (rE rN (rE rN R.esN))) (cP (cD (k_form_expanded C S D T U)))) R.esN) (sem_extend C S))) R.bN)) (bC (SemS.ret (rC (Keep.adr T.kp124) (rG T.g_ordered) (rE rN (rE rN R.esN)) (cP (cD (k_ordered C S D T U))))) R.bN))
noncomputable def f_decomposed(X:XP):List V→M V:=fnM 3 [] (m_decomposed X)
theorem k_decomposed:SemCode c 6 137 (f_decomposed c.xp):=cA T.fn_decomposed (s_decomposed C S D T U)
noncomputable def nl_form_of:List Str:=["text","data","word","composer","found"]
noncomputable def m_form_of(X:XP):Loc→M (Loc×Fl):=(sq (asg (callE (esC (gt 0) (esC (gt 1) (esC (binE (gt 2) (tupE (esC (cst (.str [110,102,107,100])) (esC (cst (.str [110,102,107,99])) esN))) (inM X.SR false)) esN))) (pureM X.RD X.B (f_decomposed X))) (st' 4)) (sq (rtn (iteE (tst X.SR (binE (gt 2) (tupE (esC (cst (.str [110,102,100])) (esC (cst (.str [110,102,107,100])) esN))) (inM X.SR false))) (gt 4) (callE (esC (gt 4) (esC (gt 1) (esC (gt 3) esN))) (pureM X.RD X.B (f_composed X))))) nextS))
theorem s_form_of:SemB c (EC (topF 31).scope []) nl_form_of 8 (topF 31).body (m_form_of c.xp):=bC (aS (rC (Keep.adr T.kp137) (rG T.g_decomposed) (rE rN (rE rN (rE (rM rN (rP (rE rS (rE rS R.esN))) (op_in S)) R.esN))) (cP (cD (k_decomposed C S D T U)))) rA) (bC (SemS.ret (SemE.ifexp C (tC rN (rP (rE rS (rE rS R.esN))) (op_in S)) rN (rC (Keep.adr T.kp194) (rG T.g_composed) (rE rN (rE rN (rE rN R.esN))) (cP (cD (k_composed C S D T U)))))) R.bN)
noncomputable def f_form_of(X:XP):List V→M V:=fnM 4 [] (m_form_of X)
theorem k_form_of:SemCode c 9 202 (f_form_of c.xp):=cA T.fn_form_of (s_form_of C S D T U)
noncomputable def nl_FormStream_finish:List Str:=["self","found"]
noncomputable def m_FormStream_finish(X:XP):Loc→M (Loc×Fl):=(sq (asg (callE (esC (attrE 258 [104,101,108,100] (gt 0)) (esC (attrE 258 [100,97,116,97] (gt 0)) (esC (attrE 258 [119,111,114,100] (gt 0)) (esC (attrE 258 [99,111,109,112,111,115,101,114] (gt 0)) esN)))) (pureM X.RD X.B (f_form_of X))) (st' 1)) (sq (asg (lstE esN) (atA 258 [104,101,108,100] (gt 0))) (sq (rtn (gt 1)) nextS)))
theorem s_FormStream_finish:SemB c (EC (metF 37 3).scope []) nl_FormStream_finish 9 (metF 37 3).body (m_FormStream_finish c.xp):=bC (aS (rC (Keep.adr T.kp202) (rG T.g_form_of) (rE (rD rN T.cg258_held) (rE (rD rN T.cg258_data) (rE (rD rN T.cg258_word) (rE (rD rN T.cg258_composer) R.esN)))) (cP (cD (k_form_of C S D T U)))) rA) (bC (aS (rQ R.esN) (aA rN T.cs258_held)) (bC (SemS.ret rN) R.bN))
noncomputable def f_FormStream_finish(X:XP):List V→M V:=fnM 1 [] (m_FormStream_finish X)
theorem k_FormStream_finish:SemCode c 10 255 (f_FormStream_finish c.xp):=cA T.fn_FormStream_finish (s_FormStream_finish C S D T U)
noncomputable def nl_Composer_is_second:List Str:=["self","code","is_vowel"]
noncomputable def m_Composer_is_second(X:XP):Loc→M (Loc×Fl):=(sq (asg (chainE X.SR (cst (.int 4449)) (gt 1) (binE (cst (.int 4449)) (cst (.int 21)) (addI)) (cmpI λa b=>decide (a≤b)) (cmpI λa b=>decide (a<b))) (st' 2)) (sq (rtn (orE X.SR (binE (gt 1) (attrE 182 [115,101,99,111,110,100,115] (gt 0)) (inM X.SR false)) (orE X.SR (gt 2) (chainE X.SR (cst (.int 4519)) (gt 1) (binE (cst (.int 4519)) (cst (.int 28)) (addI)) (cmpI λa b=>decide (a<b)) (cmpI λa b=>decide (a<b)))))) nextS))
theorem s_Composer_is_second:SemB c (EC (metF 29 2).scope []) nl_Composer_is_second 0 (metF 29 2).body (m_Composer_is_second c.xp):=bC (aS (SemE.chain C (rH T.g_VOWEL_FIRST.choose_spec) rN (rO (rH T.g_VOWEL_FIRST.choose_spec) (rH T.g_VOWELS.choose_spec) op_add) op_le op_lt (by kernel_rfl)) rA) (bC (SemS.ret (SemE.boolop (SemEB.orCons C (rM rN (rD rN T.cg182_seconds) (op_in S)) (SemEB.orCons C rN (SemEB.one (SemE.chain C (rH T.g_TAIL_NONE.choose_spec) rN (rO (rH T.g_TAIL_NONE.choose_spec) (rH T.g_TAILS.choose_spec) op_add) op_lt op_lt (by kernel_rfl))))))) R.bN)
noncomputable def f_Composer_is_second(X:XP):List V→M V:=fnM 2 [] (m_Composer_is_second X)
theorem k_Composer_is_second:SemCode c 1 179 (f_Composer_is_second c.xp):=cA T.fn_Composer_is_second (s_Composer_is_second C S D T U)
noncomputable def nl_is_stable_ahead:List Str:=["code","data","word","composer","first"]
noncomputable def m_is_stable_ahead(X:XP):Loc→M (Loc×Fl):=(sq (asg (binE (callE (esC (gt 0) (esC (gt 1) (esC (binE (gt 2) (cst (.tup [.str [110,102,107,100],.str [110,102,107,99]])) (inM X.SR false)) esN))) (pureM X.RD X.B (f_form_expanded X))) (cst (.int 0)) (getI X.SR)) (st' 4)) (sq (iff' (tst X.SR (binE (Mine.meth 368 [103,101,116] (gt 1) (esC (cst (.str [99,99,99])) (esC (gt 4) esN)) (pureM X.RD X.B (f_Data_get X))) (cst (.int 0)) (cmpI λa b=>decide (b<a)))) (sq (rtn (cst (.bool false))) nextS) nextS) (sq (asg (callE (esC (gt 1) (esC (gt 2) (esC (gt 3) esN))) (f_stream_composer X)) (st' 3)) (sq (rtn (orE X.SR (binE (gt 3) (cst .none) (isNone false)) (notE X.SR (Mine.meth 182 [105,115,95,115,101,99,111,110,100] (gt 3) (esC (gt 4) esN) (pureM X.RD X.B (f_Composer_is_second X)))))) nextS))))
theorem s_is_stable_ahead:SemB c (EC (topF 36).scope []) nl_is_stable_ahead 8 (topF 36).body (m_is_stable_ahead c.xp):=bC (aS (rU (rC (Keep.adr T.kp117) (rG T.g_form_expanded) (rE rN (rE rN (rE (rM rN (R.glob C (by kernel_rfl) T.g_COMPATIBLE.choose_spec.1 T.g_COMPATIBLE.choose_spec.2 (by kernel_rfl)) (op_in S)) R.esN))) (cP (cD (k_form_expanded C S D T U)))) R.cint) rA) (bC (iF (tC (mE T.cm368_get T.kp358 rN (rE rS (rE rN R.esN)) (cP (cD (k_Data_get C S D T U)))) R.cint op_gt) (bC (SemS.ret R.cbool) R.bN) R.bN) (bC (aS (rC (Keep.adr T.kp211) (rG T.g_stream_composer) (rE rN (rE rN (rE rN R.esN))) (cD (k_stream_composer C S D T U))) rA) (bC (SemS.ret (SemE.boolop (SemEB.orCons C (rM rN R.cnone op_is) (SemEB.one (SemE.notV (mE T.cm182_is_second T.kp179 rN (rE rN R.esN) (cP (cD (k_Composer_is_second C S D T U))))))))) R.bN)))
noncomputable def f_is_stable_ahead(X:XP):List V→M V:=fnM 4 [] (m_is_stable_ahead X)
theorem k_is_stable_ahead:SemCode c 9 219 (f_is_stable_ahead c.xp):=cA T.fn_is_stable_ahead (s_is_stable_ahead C S D T U)
noncomputable def nl_FormStream_put:List Str:=["self","code","found"]
noncomputable def m_FormStream_put(X:XP):Loc→M (Loc×Fl):=(sq (asg (lstE esN) (st' 2)) (sq (iff' (andT (tst X.SR (attrE 258 [104,101,108,100] (gt 0))) (andT (tst X.SR (callE (esC (gt 1) (esC (attrE 258 [100,97,116,97] (gt 0)) (esC (attrE 258 [119,111,114,100] (gt 0)) (esC (attrE 258 [99,111,109,112,111,115,101,114] (gt 0)) esN)))) (pureM X.RD X.B (f_is_stable_ahead X)))) trueT)) (sq (asg (Mine.meth 258 [102,105,110,105,115,104] (gt 0) esN (f_FormStream_finish X)) (st' 2)) nextS) nextS) (sq (doE (methB X.SR 1 (attrE 258 [104,101,108,100] (gt 0)) (esC (gt 1) esN) appB)) (sq (rtn (gt 2)) nextS))))
theorem s_FormStream_put:SemB c (EC (metF 37 1).scope []) nl_FormStream_put 10 (metF 37 1).body (m_FormStream_put c.xp):=bC (aS (rQ R.esN) rA) (bC (iF (SemT.boolop (tA (tV (rD rN T.cg258_held)) (tA (tV (rC (Keep.adr T.kp219) (rG T.g_is_stable_ahead) (rE rN (rE (rD rN T.cg258_data) (rE (rD rN T.cg258_word) (rE (rD rN T.cg258_composer) R.esN)))) (cP (cD (k_is_stable_ahead C S D T U))))) R.andN))) (bC (aS (mE T.cm258_finish T.kp255 rN R.esN (cD (k_FormStream_finish C S D T U))) rA) R.bN) R.bN) (bC (xS (mB F.plainAttrs_list F.slot_list_append (rD rN T.cg258_held) (rE rN R.esN) (sem_append C))) (bC (SemS.ret rN) R.bN)))
noncomputable def f_FormStream_put(X:XP):List V→M V:=fnM 2 [] (m_FormStream_put X)
theorem k_FormStream_put:SemCode c 11 241 (f_FormStream_put c.xp):=cA T.fn_FormStream_put (s_FormStream_put C S D T U)
noncomputable def nl_FormStream_put_all:List Str:=["self","text","found","code"]
noncomputable def m_FormStream_put_all(X:XP):Loc→M (Loc×Fl):=(sq (asg (lstE esN) (st' 2)) (sq (forS (valI X.SR (gt 1)) (st' 3) (sq (doE (methB X.SR 1 (gt 2) (esC (Mine.meth 258 [112,117,116] (gt 0) (esC (gt 3) esN) (f_FormStream_put X)) esN) (extB X.SR))) nextS) 1000) (sq (rtn (gt 2)) nextS)))
theorem s_FormStream_put_all:SemB c (EC (metF 37 2).scope []) nl_FormStream_put_all 11 (metF 37 2).body (m_FormStream_put_all c.xp):=bC (aS (rQ R.esN) rA) (bC (fR 1000 (vI rN) rA (bC (xS (mB F.plainAttrs_list F.slot_list_extend rN (rE (mE T.cm258_put T.kp241 rN (rE rN R.esN) (cD (k_FormStream_put C S D T U))) R.esN) (sem_extend C S))) R.bN)) (bC (SemS.ret rN) R.bN))
noncomputable def f_FormStream_put_all(X:XP):List V→M V:=fnM 2 [] (m_FormStream_put_all X)
theorem k_FormStream_put_all:SemCode c 12 248 (f_FormStream_put_all c.xp):=cA T.fn_FormStream_put_all (s_FormStream_put_all C S D T U)
noncomputable def nl_data_defaults:List Str:=["found","name"]
noncomputable def m_data_defaults(X:XP):Loc→M (Loc×Fl):=(sq (asg (Mine.dispS (psC (cst (.str [103,99])) (cst (.str [67,110])) (psC (cst (.str [99,99,99])) (cst (.int 0)) (psC (cst (.str [98,99])) (cst (.str [76])) (psC (cst (.str [108,98])) (cst (.str [88,88])) (psC (cst (.str [101,97])) (cst (.str [78])) (psC (cst (.str [115,99])) (cst (.str [90,122,122,122])) (psC (cst (.str [106,116])) (cst (.str [85])) (psC (cst (.str [105,110,99,98])) (cst (.str [78,111,110,101])) psN))))))))) (st' 0)) (sq (forS (valI X.SR (tupE (esC (cst (.str [103,99,98])) (esC (cst (.str [119,98])) (esC (cst (.str [115,98])) esN))))) (st' 1) (sq (asg (cst (.str [79,116,104,101,114])) (subA (gt 0) (gt 1))) nextS) 1000) (sq (forS (valI X.SR (tupE (esC (cst (.str [101,120])) (esC (cst (.str [115,100])) (esC (cst (.str [99,97,115,101,100])) (esC (cst (.str [99,105])) (esC (cst (.str [101,112])) (esC (cst (.str [100,105])) (esC (cst (.str [105,100,115])) (esC (cst (.str [105,100,99])) (esC (cst (.str [120,105,100,115])) (esC (cst (.str [120,105,100,99])) (esC (cst (.str [112,97,116,95,115,121,110])) (esC (cst (.str [112,97,116,95,119,115])) (esC (cst (.str [105,100,115,116])) esN))))))))))))))) (st' 1) (sq (asg (cst (.bool false)) (subA (gt 0) (gt 1))) nextS) 1000) (sq (forS (valI X.SR (tupE (esC (cst (.str [100,109])) (esC (cst (.str [117,99])) (esC (cst (.str [108,99])) (esC (cst (.str [116,99])) (esC (cst (.str [99,102])) (esC (cst (.str [98,109])) (esC (cst (.str [98,112,98])) (esC (cst (.str [115,99,120])) (esC (cst (.str [110,116])) (esC (cst (.str [110,118])) (esC (cst (.str [110,97,109,101])) (esC (cst (.str [99,111,110,102])) (esC (cst (.str [110,102,107,99,95,99,102])) esN))))))))))))))) (st' 1) (sq (asg (cst .none) (subA (gt 0) (gt 1))) nextS) 1000) (sq (forS (valI X.SR (tupE (esC (cst (.str [115,117,99])) (esC (cst (.str [115,108,99])) (esC (cst (.str [115,116,99])) (esC (cst (.str [97,108,105,97,115])) esN)))))) (st' 1) (sq (asg (tupE esN) (subA (gt 0) (gt 1))) nextS) 1000) (sq (asg (tupE (esC (cst (.str [100,105,115,97,108,108,111,119,101,100])) (esC (tupE esN) esN))) (subA (gt 0) (cst (.str [105,100,110,97])))) (sq (rtn (gt 0)) nextS)))))))
theorem s_data_defaults:SemB c (EC (topF 43).scope []) nl_data_defaults 0 (topF 43).body (m_data_defaults c.xp):=@SemB.cons prog w c _ _ _ _ _ _ _ C (@SemS.assign prog w c _ _ _ _ _ _ _ _ C (@SemE.dispS prog w c _ _ _ _ _ _ _ C (by kernel_rfl) (by kernel_rfl) (by intro z;cases z) (by decide) (@R.psC prog w c _ _ _ _ _ _ _ _ _ _ C rS rS (@R.psC prog w c _ _ _ _ _ _ _ _ _ _ C rS R.cint (@R.psC prog w c _ _ _ _ _ _ _ _ _ _ C rS rS (@R.psC prog w c _ _ _ _ _ _ _ _ _ _ C rS rS (@R.psC prog w c _ _ _ _ _ _ _ _ _ _ C rS rS (@R.psC prog w c _ _ _ _ _ _ _ _ _ _ C rS rS (@R.psC prog w c _ _ _ _ _ _ _ _ _ _ C rS rS (@R.psC prog w c _ _ _ _ _ _ _ _ _ _ C rS rS R.psN))))))))) rA (λ_=>rfl) (λ_ _=>rfl) (λ_ _=>rfl)) (@SemB.cons prog w c _ _ _ _ _ _ _ C (@SemS.for prog w c _ _ _ _ _ _ _ _ _ _ C 1000 (@R.valI prog w c _ _ _ _ _ _ C S (@R.tup prog w c _ _ _ _ _ _ _ C (@R.esC prog w c _ _ _ _ _ _ _ C rS (@R.esC prog w c _ _ _ _ _ _ _ C rS (@R.esC prog w c _ _ _ _ _ _ _ C rS R.esN (λ_=>rfl)) (λ_=>rfl)) (λ_=>rfl)) (by decide))) rA (@SemB.cons prog w c _ _ _ _ _ _ _ C (@SemS.assign prog w c _ _ _ _ _ _ _ _ C rS (@SemA.sub prog w c _ _ _ _ _ _ _ _ C rN rN) (λ_=>rfl) (λ_ _=>rfl) (λ_ _=>rfl)) R.bN) (λ_ _=>rfl)) (@SemB.cons prog w c _ _ _ _ _ _ _ C (@SemS.for prog w c _ _ _ _ _ _ _ _ _ _ C 1000 (@R.valI prog w c _ _ _ _ _ _ C S (@R.tup prog w c _ _ _ _ _ _ _ C (@R.esC prog w c _ _ _ _ _ _ _ C rS (@R.esC prog w c _ _ _ _ _ _ _ C rS (@R.esC prog w c _ _ _ _ _ _ _ C rS (@R.esC prog w c _ _ _ _ _ _ _ C rS (@R.esC prog w c _ _ _ _ _ _ _ C rS (@R.esC prog w c _ _ _ _ _ _ _ C rS (@R.esC prog w c _ _ _ _ _ _ _ C rS (@R.esC prog w c _ _ _ _ _ _ _ C rS (@R.esC prog w c _ _ _ _ _ _ _ C rS (@R.esC prog w c _ _ _ _ _ _ _ C rS (@R.esC prog w c _ _ _ _ _ _ _ C rS (@R.esC prog w c _ _ _ _ _ _ _ C rS (@R.esC prog w c _ _ _ _ _ _ _ C rS R.esN (λ_=>rfl)) (λ_=>rfl)) (λ_=>rfl)) (λ_=>rfl)) (λ_=>rfl)) (λ_=>rfl)) (λ_=>rfl)) (λ_=>rfl)) (λ_=>rfl)) (λ_=>rfl)) (λ_=>rfl)) (λ_=>rfl)) (λ_=>rfl)) (by decide))) rA (@SemB.cons prog w c _ _ _ _ _ _ _ C (@SemS.assign prog w c _ _ _ _ _ _ _ _ C R.cbool (@SemA.sub prog w c _ _ _ _ _ _ _ _ C rN rN) (λ_=>rfl) (λ_ _=>rfl) (λ_ _=>rfl)) R.bN) (λ_ _=>rfl)) (@SemB.cons prog w c _ _ _ _ _ _ _ C (@SemS.for prog w c _ _ _ _ _ _ _ _ _ _ C 1000 (@R.valI prog w c _ _ _ _ _ _ C S (@R.tup prog w c _ _ _ _ _ _ _ C (@R.esC prog w c _ _ _ _ _ _ _ C rS (@R.esC prog w c _ _ _ _ _ _ _ C rS (@R.esC prog w c _ _ _ _ _ _ _ C rS (@R.esC prog w c _ _ _ _ _ _ _ C rS (@R.esC prog w c _ _ _ _ _ _ _ C rS (@R.esC prog w c _ _ _ _ _ _ _ C rS (@R.esC prog w c _ _ _ _ _ _ _ C rS (@R.esC prog w c _ _ _ _ _ _ _ C rS (@R.esC prog w c _ _ _ _ _ _ _ C rS (@R.esC prog w c _ _ _ _ _ _ _ C rS (@R.esC prog w c _ _ _ _ _ _ _ C rS (@R.esC prog w c _ _ _ _ _ _ _ C rS (@R.esC prog w c _ _ _ _ _ _ _ C rS R.esN (λ_=>rfl)) (λ_=>rfl)) (λ_=>rfl)) (λ_=>rfl)) (λ_=>rfl)) (λ_=>rfl)) (λ_=>rfl)) (λ_=>rfl)) (λ_=>rfl)) (λ_=>rfl)) (λ_=>rfl)) (λ_=>rfl)) (λ_=>rfl)) (by decide))) rA (@SemB.cons prog w c _ _ _ _ _ _ _ C (@SemS.assign prog w c _ _ _ _ _ _ _ _ C R.cnone (@SemA.sub prog w c _ _ _ _ _ _ _ _ C rN rN) (λ_=>rfl) (λ_ _=>rfl) (λ_ _=>rfl)) R.bN) (λ_ _=>rfl)) (@SemB.cons prog w c _ _ _ _ _ _ _ C (@SemS.for prog w c _ _ _ _ _ _ _ _ _ _ C 1000 (@R.valI prog w c _ _ _ _ _ _ C S (@R.tup prog w c _ _ _ _ _ _ _ C (@R.esC prog w c _ _ _ _ _ _ _ C rS (@R.esC prog w c _ _ _ _ _ _ _ C rS (@R.esC prog w c _ _ _ _ _ _ _ C rS (@R.esC prog w c _ _ _ _ _ _ _ C rS R.esN (λ_=>rfl)) (λ_=>rfl)) (λ_=>rfl)) (λ_=>rfl)) (by decide))) rA (@SemB.cons prog w c _ _ _ _ _ _ _ C (@SemS.assign prog w c _ _ _ _ _ _ _ _ C (@R.tup prog w c _ _ _ _ _ _ _ C R.esN (by decide)) (@SemA.sub prog w c _ _ _ _ _ _ _ _ C rN rN) (λ_=>rfl) (λ_ _=>rfl) (λ_ _=>rfl)) R.bN) (λ_ _=>rfl)) (@SemB.cons prog w c _ _ _ _ _ _ _ C (@SemS.assign prog w c _ _ _ _ _ _ _ _ C (@R.tup prog w c _ _ _ _ _ _ _ C (@R.esC prog w c _ _ _ _ _ _ _ C rS (@R.esC prog w c _ _ _ _ _ _ _ C (@R.tup prog w c _ _ _ _ _ _ _ C R.esN (by decide)) R.esN (λ_=>rfl)) (λ_=>rfl)) (by decide)) (@SemA.sub prog w c _ _ _ _ _ _ _ _ C rN rS) (λ_=>rfl) (λ_ _=>rfl) (λ_ _=>rfl)) (@SemB.cons prog w c _ _ _ _ _ _ _ C (@SemS.ret prog w c _ _ _ _ _ _ rN) R.bN))))))
noncomputable def f_data_defaults(X:XP):List V→M V:=fnM 0 [] (m_data_defaults X)
theorem k_data_defaults:SemCode c 1 330 (f_data_defaults c.xp):=@SemCode.at prog w c _ _ _ _ _ _ _ _ _ C T.fn_data_defaults (by kernel_rfl) (by kernel_rfl) (by kernel_rfl) (by decide) (by decide) (λ_ _ _=>.nil) (@s_data_defaults prog w c C S D T U) (by kernel_rfl) (by kernel_rfl) (by kernel_rfl) (by decide)
noncomputable def nl_Data_init:List Str:=["self"]
noncomputable def m_Data_init(X:XP):Loc→M (Loc×Fl):=(sq (asg (callE esN (f_data_defaults X)) (atA 368 [100,101,102,97,117,108,116,115] (gt 0))) (sq (asg (newD 0) (atA 368 [109,97,112,115] (gt 0))) (sq (asg (newD 0) (atA 368 [112,114,111,112,101,114,116,105,101,115] (gt 0))) (sq (asg (newD 0) (atA 368 [119,111,114,100,115] (gt 0))) nextS))))
theorem s_Data_init:SemB c (EC (metF 44 0).scope []) nl_Data_init 1 (metF 44 0).body (m_Data_init c.xp):=bC (aS (rC (Keep.adr T.kp330) (rG T.g_data_defaults) R.esN (cD (k_data_defaults C S D T U))) (aA rN T.cs368_defaults)) (bC (aS (SemE.disp0 0 C) (aA rN T.cs368_maps)) (bC (aS (SemE.disp0 0 C) (aA rN T.cs368_properties)) (bC (aS (SemE.disp0 0 C) (aA rN T.cs368_words)) R.bN)))
noncomputable def f_Data_init(X:XP):List V→M V:=fnM 1 [] (m_Data_init X)
theorem k_Data_init:SemCode c 2 344 (f_Data_init c.xp):=cA T.fn_Data_init (s_Data_init C S D T U)
noncomputable def nl_RangeMap_put:List Str:=["self","first","last","value","low","high","behind","starts","values"]
noncomputable def m_RangeMap_put(X:XP):Loc→M (Loc×Fl):=(sq (iff' (tst X.SR (binE (gt 1) (gt 2) (cmpI λa b=>decide (b<a)))) (sq ret0S nextS) nextS) (sq (asg (binE (callE (esC (attrE 312 [115,116,97,114,116,115] (gt 0)) (esC (binE (gt 1) (cst (.int 1)) (subI)) esN)) (f_place_by_half X)) (cst (.int 1)) (addI)) (st' 4)) (sq (asg (binE (callE (esC (attrE 312 [115,116,97,114,116,115] (gt 0)) (esC (binE (gt 2) (cst (.int 1)) (addI)) esN)) (f_place_by_half X)) (cst (.int 1)) (addI)) (st' 5)) (sq (asg (binE (attrE 312 [118,97,108,117,101,115] (gt 0)) (binE (gt 5) (cst (.int 1)) (subI)) (getI X.SR)) (st' 6)) (sq (asgR (tupE (esC (lstE (esC (gt 1) esN)) (esC (lstE (esC (gt 3) esN)) esN))) [7,8]) (sq (iff' (andT (tst X.SR (binE (gt 2) (cst (.int 1114111)) (cmpI λa b=>decide (a<b)))) (andT (notT (tst X.SR (callE (esC (gt 6) (esC (gt 3) esN)) (f_range_are_like X)))) trueT)) (sq (doE (methB X.SR 1 (gt 7) (esC (binE (gt 2) (cst (.int 1)) (addI)) esN) appB)) (sq (doE (methB X.SR 1 (gt 8) (esC (gt 6) esN) appB)) nextS)) nextS) (sq (iff' (andT (tst X.SR (binE (gt 4) (cst (.int 0)) (cmpI λa b=>decide (b<a)))) (andT (tst X.SR (callE (esC (binE (attrE 312 [118,97,108,117,101,115] (gt 0)) (binE (gt 4) (cst (.int 1)) (subI)) (getI X.SR)) (esC (gt 3) esN)) (f_range_are_like X))) trueT)) (sq (asgR (tupE (esC (slcE X.SR (gt 7) (someP (cst (.int 1))) noP) (esC (slcE X.SR (gt 8) (someP (cst (.int 1))) noP) esN))) [7,8]) nextS) nextS) (sq (asg (binE (binE (slcE X.SR (attrE 312 [115,116,97,114,116,115] (gt 0)) noP (someP (gt 4))) (gt 7) (catM X.SR)) (slcE X.SR (attrE 312 [115,116,97,114,116,115] (gt 0)) (someP (gt 5)) noP) (catM X.SR)) (atA 312 [115,116,97,114,116,115] (gt 0))) (sq (asg (binE (binE (slcE X.SR (attrE 312 [118,97,108,117,101,115] (gt 0)) noP (someP (gt 4))) (gt 8) (catM X.SR)) (slcE X.SR (attrE 312 [118,97,108,117,101,115] (gt 0)) (someP (gt 5)) noP) (catM X.SR)) (atA 312 [118,97,108,117,101,115] (gt 0))) nextS)))))))))
theorem s_RangeMap_put:SemB c (EC (metF 40 2).scope []) nl_RangeMap_put 1 (metF 40 2).body (m_RangeMap_put c.xp):=bC (iF (tC rN rN op_gt) (bC R.ret0 R.bN) R.bN) (bC (aS (rO (rC (Keep.adr T.kp75) (rG T.g_place_by_half) (rE (rD rN T.cg312_starts) (rE (rO rN R.cint op_sub) R.esN)) (cD (k_place_by_half C S D T U))) R.cint op_add) rA) (bC (aS (rO (rC (Keep.adr T.kp75) (rG T.g_place_by_half) (rE (rD rN T.cg312_starts) (rE (rO rN R.cint op_add) R.esN)) (cD (k_place_by_half C S D T U))) R.cint op_add) rA) (bC (aS (rU (rD rN T.cg312_values) (rO rN R.cint op_sub)) rA) (bC (sW (names:=["starts","values"]) (rP (rE (rQ (rE rN R.esN)) (rE (rQ (rE rN R.esN)) R.esN)))) (bC (iF (SemT.boolop (tA (tC rN (rH T.g_MAX_CODE.choose_spec) op_lt) (tA (SemT.not (tV (rC (Keep.adr T.kp269) (rG T.g_range_are_like) (rE rN (rE rN R.esN)) (cD (k_range_are_like C S D T U))))) R.andN))) (bC (xS (mB F.plainAttrs_list F.slot_list_append rN (rE (rO rN R.cint op_add) R.esN) (sem_append C))) (bC (xS (mB F.plainAttrs_list F.slot_list_append rN (rE rN R.esN) (sem_append C))) R.bN)) R.bN) (bC (iF (SemT.boolop (tA (tC rN R.cint op_gt) (tA (tV (rC (Keep.adr T.kp269) (rG T.g_range_are_like) (rE (rU (rD rN T.cg312_values) (rO rN R.cint op_sub)) (rE rN R.esN)) (cD (k_range_are_like C S D T U)))) R.andN))) (bC (sW (names:=["starts","values"]) (rP (rE (sL rN (SemP.some R.cint) R.pN) (rE (sL rN (SemP.some R.cint) R.pN) R.esN)))) R.bN) R.bN) (bC (aS (rO (rO (sL (rD rN T.cg312_starts) R.pN (SemP.some rN)) rN (op_cat C S)) (sL (rD rN T.cg312_starts) (SemP.some rN) R.pN) (op_cat C S)) (aA rN T.cs312_starts)) (bC (aS (rO (rO (sL (rD rN T.cg312_values) R.pN (SemP.some rN)) rN (op_cat C S)) (sL (rD rN T.cg312_values) (SemP.some rN) R.pN) (op_cat C S)) (aA rN T.cs312_values)) R.bN))))))))
noncomputable def f_RangeMap_put(X:XP):List V→M V:=fnM 4 [] (m_RangeMap_put X)
theorem k_RangeMap_put:SemCode c 2 297 (f_RangeMap_put c.xp):=cA T.fn_RangeMap_put (s_RangeMap_put C S D T U)
noncomputable def nl_Data_put:List Str:=["self","name","first","last","value"]
noncomputable def m_Data_put(X:XP):Loc→M (Loc×Fl):=(sq (doE (Mine.meth 312 [112,117,116] (Mine.meth 368 [109,97,112,95,111,102] (gt 0) (esC (gt 1) esN) (f_Data_map_of X)) (esC (gt 2) (esC (gt 3) (esC (gt 4) esN))) (f_RangeMap_put X))) nextS)
theorem s_Data_put:SemB c (EC (metF 44 1).scope []) nl_Data_put 3 (metF 44 1).body (m_Data_put c.xp):=bC (xS (mE T.cm312_put T.kp297 (mE T.cm368_map_of T.kp365 rN (rE rN R.esN) (cD (k_Data_map_of C S D T U))) (rE rN (rE rN (rE rN R.esN))) (cD (k_RangeMap_put C S D T U)))) R.bN
noncomputable def f_Data_put(X:XP):List V→M V:=fnM 5 [] (m_Data_put X)
theorem k_Data_put:SemCode c 4 351 (f_Data_put c.xp):=cA T.fn_Data_put (s_Data_put C S D T U)
noncomputable def nl_law_class:List Str:=[]
noncomputable def m_law_class(X:XP):Loc→M (Loc×Fl):=(sq (rtn (Mine.dispI (psC (cst (.int 768)) (cst (.int 230)) (psC (cst (.int 770)) (cst (.int 230)) (psC (cst (.int 803)) (cst (.int 220)) (psC (cst (.int 837)) (cst (.int 240)) psN)))))) nextS)
theorem s_law_class:SemB c (EC (topF 50).scope []) nl_law_class 0 (topF 50).body (m_law_class c.xp):=@SemB.cons prog w c _ _ _ _ _ _ _ C (@SemS.ret prog w c _ _ _ _ _ _ (@SemE.dispI prog w c _ _ _ _ _ _ _ C (by kernel_rfl) (by kernel_rfl) (by intro z;cases z) (by decide) (@R.psC prog w c _ _ _ _ _ _ _ _ _ _ C R.cint R.cint (@R.psC prog w c _ _ _ _ _ _ _ _ _ _ C R.cint R.cint (@R.psC prog w c _ _ _ _ _ _ _ _ _ _ C R.cint R.cint (@R.psC prog w c _ _ _ _ _ _ _ _ _ _ C R.cint R.cint R.psN)))))) R.bN
noncomputable def f_law_class(X:XP):List V→M V:=fnM 0 [] (m_law_class X)
theorem k_law_class:SemCode c 1 404 (f_law_class c.xp):=@SemCode.at prog w c _ _ _ _ _ _ _ _ _ C T.fn_law_class (by kernel_rfl) (by kernel_rfl) (by kernel_rfl) (by decide) (by decide) (λ_ _ _=>.nil) (@s_law_class prog w c C S D T U) (by kernel_rfl) (by kernel_rfl) (by kernel_rfl) (by decide)
noncomputable def nl_law_data:List Str:=["data","code"]
noncomputable def m_law_data(X:XP):Loc→M (Loc×Fl):=(sq (asg (callE esN (mkI 368 (f_Data_init X))) (st' 0)) (sq (forS (valI X.SR (cst (.adr 392))) (st' 1) (sq (doE (Mine.meth 368 [112,117,116] (gt 0) (esC (cst (.str [100,109])) (esC (gt 1) (esC (gt 1) (esC (tupE (esC (iteE (tst X.SR (binE (gt 1) (cst (.int 64257)) (eqM X.SR false))) (cst (.str [99,111,109,112,97,116])) (cst (.str []))) (esC (callE (esC (binE (cst (.adr 392)) (gt 1) (getI X.SR)) esN) (tupleB X.SR)) esN))) esN)))) (f_Data_put X))) nextS) 1000) (sq (forS (valI X.SR (callE esN (f_law_class X))) (st' 1) (sq (doE (Mine.meth 368 [112,117,116] (gt 0) (esC (cst (.str [99,99,99])) (esC (gt 1) (esC (gt 1) (esC (binE (callE esN (f_law_class X)) (gt 1) (getI X.SR)) esN)))) (f_Data_put X))) nextS) 1000) (sq (rtn (gt 0)) nextS))))
theorem s_law_data:SemB c (EC (topF 53).scope []) nl_law_data 4 (topF 53).body (m_law_data c.xp):=bC (aS (rC (Keep.cls T.kp368) (rG T.g_Data) R.esN (SemCall.make C T.mk368 T.in368 T.ty344 ((k_Data_init C S D T U).less (by decide)))) rA) (bC (fR 1000 (vI (rG T.g_law_parts)) rA (bC (xS (mE T.cm368_put T.kp351 rN (rE rS (rE rN (rE rN (rE (rP (rE (SemE.ifexp C (tC rN R.cint (op_eqM S)) rS rS) (rE (rC Keep.ty (rT T.b_tuple) (rE (rU (rG T.g_law_parts) rN) R.esN) (sem_tuple C S)) R.esN))) R.esN)))) (cD (k_Data_put C S D T U)))) R.bN)) (bC (fR 1000 (vI (rC (Keep.adr T.kp404) (rG T.g_law_class) R.esN (cD (k_law_class C S D T U)))) rA (bC (xS (mE T.cm368_put T.kp351 rN (rE rS (rE rN (rE rN (rE (rU (rC (Keep.adr T.kp404) (rG T.g_law_class) R.esN (cD (k_law_class C S D T U))) rN) R.esN)))) (cD (k_Data_put C S D T U)))) R.bN)) (bC (SemS.ret rN) R.bN)))
noncomputable def f_law_data(X:XP):List V→M V:=fnM 0 [] (m_law_data X)
theorem k_law_data:SemCode c 5 417 (f_law_data c.xp):=cA T.fn_law_data (s_law_data C S D T U)
noncomputable def nl_law_deck:List Str:=["script","cells","mixed","cell"]
noncomputable def m_law_deck(X:XP):Loc→M (Loc×Fl):=(sq (asgR (tupE (esC (compM (valI X.SR (slcX X.SC (gt 0) noP (someP (cst (.int 16))))) [] (st' 0) trueT (callE (esC (gt 0) esN) (intB)) 1000) (esC (cst (.int 11617)) esN))) [1,2]) (sq (forS (valI X.SR (gt 1)) (st' 3) (sq (asg (binE (binE (binE (binE (gt 2) (cst (.int 48271)) (mulI)) (binE (gt 3) (cst (.int 2147483629)) (modI)) (addI)) (cst (.int 11617)) (addI)) (cst (.int 2147483587)) (modI)) (st' 2)) nextS) 1000) (sq (rtn (Mine.dispS (psC (cst (.str [99,101,108,108,115])) (revE X.SR (gt 1) (someP (negE (cst (.int 1))))) (psC (cst (.str [109,105,120,101,100])) (gt 2) (psC (cst (.str [116,117,114,110])) (cst (.int 0)) psN))))) nextS)))
theorem s_law_deck:SemB c (EC (topF 46).scope []) nl_law_deck 0 (topF 46).body (m_law_deck c.xp):=bC (sW (names:=["cells","mixed"]) (rP (rE (SemE.comp (nl':=["cell"]) (cn':=[]) C (vI (SemE.sliceX C rN R.pN (SemP.some R.cint) (λ_ _=>rfl))) rL R.tN (rC Keep.ty (rT T.b_int) (rE rN R.esN) sem_int) (by decide) (by kernel_rfl) (λ_ _=>rfl)) (rE R.cint R.esN)))) (bC (fR 1000 (vI rN) rA (bC (aS (rO (rO (rO (rO rN R.cint op_mul) (rO rN R.cint op_mod) op_add) R.cint op_add) R.cint op_mod) rA) R.bN)) (bC (SemS.ret (SemE.dispS C (by kernel_rfl) (by kernel_rfl) (by intro z;cases z) (by decide) (pS rS (SemE.rev C S rN (SemP.some (SemE.neg R.cint)) (λ_ _=>rfl)) (pS rS rN (pS rS R.cint R.psN))))) R.bN))
noncomputable def f_law_deck(X:XP):List V→M V:=fnM 1 [] (m_law_deck X)
theorem k_law_deck:SemCode c 1 377 (f_law_deck c.xp):=cA T.fn_law_deck (s_law_deck C S D T U)
noncomputable def nl_law_draw:List Str:=["deck","below","figure","cell"]
noncomputable def m_law_draw(X:XP):Loc→M (Loc×Fl):=(sq (asg (binE (binE (gt 0) (cst (.str [116,117,114,110])) (getI X.SR)) (cst (.int 1)) (addI)) (subA (gt 0) (cst (.str [116,117,114,110])))) (sq (asg (binE (binE (gt 0) (cst (.str [109,105,120,101,100])) (getI X.SR)) (binE (binE (cst (.int 65521)) (binE (gt 0) (cst (.str [116,117,114,110])) (getI X.SR)) (mulI)) (binE (gt 0) (cst (.str [116,117,114,110])) (getI X.SR)) (mulI)) (addI)) (st' 2)) (sq (iff' (tst X.SR (binE (binE (gt 0) (cst (.str [99,101,108,108,115])) (getI X.SR)) (lstE esN) (eqM X.SR true))) (sq (asg (methB X.SR 1 (binE (gt 0) (cst (.str [99,101,108,108,115])) (getI X.SR)) esN popB) (st' 3)) (sq (iff' (tst X.SR (binE (gt 3) (cst (.int 1000000)) (cmpI λa b=>decide (b≤a)))) (sq (doE (methB X.SR 1 (binE (gt 0) (cst (.str [99,101,108,108,115])) (getI X.SR)) (esC (binE (gt 3) (gt 1) (divI)) esN) appB)) (sq (rtn (binE (gt 3) (gt 1) (modI))) nextS)) nextS) (sq (asg (binE (gt 2) (binE (gt 3) (cst (.int 2147483563)) (modI)) (addI)) (st' 2)) nextS))) nextS) (sq (asg (binE (binE (binE (gt 2) (cst (.int 2147483629)) (modI)) (cst (.int 40692)) (mulI)) (cst (.int 2147483647)) (modI)) (st' 2)) (sq (asg (binE (binE (binE (gt 2) (gt 2) (mulI)) (cst (.int 11621)) (addI)) (cst (.int 2147483587)) (modI)) (st' 2)) (sq (rtn (binE (binE (binE (binE (gt 2) (cst (.int 39373)) (mulI)) (cst (.int 2147483579)) (modI)) (cst (.int 64)) (divI)) (gt 1) (modI))) nextS))))))
theorem s_law_draw:SemB c (EC (topF 47).scope []) nl_law_draw 0 (topF 47).body (m_law_draw c.xp):=bC (aS (rO (rU rN rS) R.cint op_add) (aB rN rS)) (bC (aS (rO (rU rN rS) (rO (rO R.cint (rU rN rS) op_mul) (rU rN rS) op_mul) op_add) rA) (bC (iF (tC (rU rN rS) (rQ R.esN) (op_neM S)) (bC (aS (mB F.plainAttrs_list F.slot_list_pop (rU rN rS) R.esN (sem_pop C)) rA) (bC (iF (tC rN R.cint op_ge) (bC (xS (mB F.plainAttrs_list F.slot_list_append (rU rN rS) (rE (rO rN rN op_div) R.esN) (sem_append C))) (bC (SemS.ret (rO rN rN op_mod)) R.bN)) R.bN) (bC (aS (rO rN (rO rN R.cint op_mod) op_add) rA) R.bN))) R.bN) (bC (aS (rO (rO (rO rN R.cint op_mod) R.cint op_mul) R.cint op_mod) rA) (bC (aS (rO (rO (rO rN rN op_mul) R.cint op_add) R.cint op_mod) rA) (bC (SemS.ret (rO (rO (rO (rO rN R.cint op_mul) R.cint op_mod) R.cint op_div) rN op_mod)) R.bN)))))
noncomputable def f_law_draw(X:XP):List V→M V:=fnM 2 [] (m_law_draw X)
theorem k_law_draw:SemCode c 1 384 (f_law_draw c.xp):=cA T.fn_law_draw (s_law_draw C S D T U)
noncomputable def nl_law_apart:List Str:=["code","is_wide","found","one"]
noncomputable def m_law_apart(X:XP)(rec:List V→M V):Loc→M (Loc×Fl):=(sq (iff' (orT (tst X.SR (binE (gt 0) (cst (.adr 392)) (inM X.SR true))) (orT (andT (tst X.SR (binE (gt 0) (cst (.int 64257)) (eqM X.SR false))) (andT (notT (tst X.SR (gt 1))) trueT)) falseT)) (sq (rtn (lstE (esC (gt 0) esN))) nextS) nextS) (sq (asg (lstE esN) (st' 2)) (sq (forS (valI X.SR (binE (cst (.adr 392)) (gt 0) (getI X.SR))) (st' 3) (sq (asg (binE (gt 2) (callE (esC (gt 3) (esC (gt 1) esN)) rec) (catM X.SR)) (st' 2)) nextS) 1000) (sq (rtn (gt 2)) nextS))))
theorem s_law_apart{rec:List V→M V}{d:Nat}(hrec:SemCode c d 424 rec):SemB c (EC (topF 54).scope []) nl_law_apart d (topF 54).body (m_law_apart c.xp rec):=bC (iF (SemT.boolop (tO (tC rN (rG T.g_law_parts) (op_notIn S)) (tO (SemT.boolop (tA (tC rN R.cint (op_eqM S)) (tA (SemT.not (tV rN)) R.andN))) R.orN))) (bC (SemS.ret (rQ (rE rN R.esN))) R.bN) R.bN) (bC (aS (rQ R.esN) rA) (bC (fR 1000 (vI (rU (rG T.g_law_parts) rN)) rA (bC (aS (rO rN (rC (Keep.adr T.kp424) (rG T.g_law_apart) (rE rN (rE rN R.esN)) (SemCall.of_code hrec)) (op_cat C S)) rA) R.bN)) (bC (SemS.ret rN) R.bN)))
noncomputable def f_law_apart(X:XP):Nat→List V→M V
 |0=>λ_=>fail
 |k+1=>fnM 2 [] (m_law_apart X (f_law_apart X k))
theorem kr_law_apart:∀k,SemCode c k 424 (f_law_apart c.xp k)
 |0=>SemCode.none
 |k+1=>SemCode.at C T.fn_law_apart (by kernel_rfl) (by kernel_rfl) (by kernel_rfl) (by decide) (by decide) (λ_ _ _=>.nil) (s_law_apart C S D T U (kr_law_apart k)) (by kernel_rfl) (by kernel_rfl) (by kernel_rfl)
theorem k_law_apart:SemCode c 9 424 (f_law_apart c.xp 9):=kr_law_apart C S D T U 9
noncomputable def nl_law_ordered:List Str:=["text","found","code","at","own"]
noncomputable def m_law_ordered(X:XP):Loc→M (Loc×Fl):=(sq (asg (lstE esN) (st' 1)) (sq (forS (valI X.SR (gt 0)) (st' 2) (sq (asgR (tupE (esC (callE (esC (gt 1) esN) (lenB X.SR)) (esC (methB X.SR 2 (callE esN (f_law_class X)) (esC (gt 2) (esC (cst (.int 0)) esN)) (getB X.SR)) esN))) [3,4]) (sq (whileM (andT (tst X.SR (binE (gt 4) (cst (.int 0)) (cmpI λa b=>decide (b<a)))) (andT (tst X.SR (binE (gt 3) (cst (.int 0)) (cmpI λa b=>decide (b<a)))) (andT (tst X.SR (binE (methB X.SR 2 (callE esN (f_law_class X)) (esC (binE (gt 1) (binE (gt 3) (cst (.int 1)) (subI)) (getI X.SR)) (esC (cst (.int 0)) esN)) (getB X.SR)) (gt 4) (cmpI λa b=>decide (b<a)))) trueT))) (sq (asg (binE (gt 3) (cst (.int 1)) (subI)) (st' 3)) nextS) 1000) (sq (asg (binE (binE (slcE X.SR (gt 1) noP (someP (gt 3))) (lstE (esC (gt 2) esN)) (catM X.SR)) (slcE X.SR (gt 1) (someP (gt 3)) noP) (catM X.SR)) (st' 1)) nextS))) 1000) (sq (rtn (gt 1)) nextS)))
theorem s_law_ordered:SemB c (EC (topF 55).scope []) nl_law_ordered 1 (topF 55).body (m_law_ordered c.xp):=bC (aS (rQ R.esN) rA) (bC (fR 1000 (vI rN) rA (bC (sW (names:=["at","own"]) (rP (rE (rC Keep.bi (rB T.b_len) (rE rN R.esN) (sem_len S)) (rE (mB F.plainAttrs_dict F.slot_dict_get (rC (Keep.adr T.kp404) (rG T.g_law_class) R.esN (cD (k_law_class C S D T U))) (rE rN (rE R.cint R.esN)) (sem_get S)) R.esN)))) (bC (SemS.while C 1000 (SemT.boolop (tA (tC rN R.cint op_gt) (tA (tC rN R.cint op_gt) (tA (tC (mB F.plainAttrs_dict F.slot_dict_get (rC (Keep.adr T.kp404) (rG T.g_law_class) R.esN (cD (k_law_class C S D T U))) (rE (rU rN (rO rN R.cint op_sub)) (rE R.cint R.esN)) (sem_get S)) rN op_gt) R.andN)))) (bC (aS (rO rN R.cint op_sub) rA) R.bN)) (bC (aS (rO (rO (sL rN R.pN (SemP.some rN)) (rQ (rE rN R.esN)) (op_cat C S)) (sL rN (SemP.some rN) R.pN) (op_cat C S)) rA) R.bN)))) (bC (SemS.ret rN) R.bN))
noncomputable def f_law_ordered(X:XP):List V→M V:=fnM 1 [] (m_law_ordered X)
theorem k_law_ordered:SemCode c 2 431 (f_law_ordered c.xp):=cA T.fn_law_ordered (s_law_ordered C S D T U)
noncomputable def nl_law_together:List Str:=["text","found","pairs","code","spots","between","made","own"]
noncomputable def m_law_together(X:XP):Loc→M (Loc×Fl):=(sq (asg (tupE (esC (lstE esN) (esC (compM (valI X.SR (cst (.adr 392))) [] (st' 0) (tst X.SR (binE (gt 0) (cst (.int 64257)) (eqM X.SR true))) (tupE (esC (callE (esC (binE (cst (.adr 392)) (gt 0) (getI X.SR)) esN) (tupleB X.SR)) (esC (gt 0) esN))) 1000) esN))) (tupA 2 (consA (st' 1) (consA (st' 2) asN)))) (sq (forS (valI X.SR (gt 0)) (st' 3) (sq (asg (compM (enuI X.SR (esC (gt 1) esN)) [] (tupA 2 (consA (st' 0) (consA (st' 1) asN))) (tst X.SR (binE (methB X.SR 2 (callE esN (f_law_class X)) (esC (gt 1) (esC (cst (.int 0)) esN)) (getB X.SR)) (cst (.int 0)) (eqM X.SR false))) (gt 0) 1000) (st' 4)) (sq (iff' (tst X.SR (binE (gt 4) (lstE esN) (eqM X.SR true))) (sq (asgC (compM (valI X.SR (slcE X.SR (gt 1) (someP (binE (binE (gt 4) (negE (cst (.int 1))) (getI X.SR)) (cst (.int 1)) (addI))) noP)) [] (st' 0) trueT (methB X.SR 2 (callE esN (f_law_class X)) (esC (gt 0) (esC (cst (.int 0)) esN)) (getB X.SR)) 1000) 5) (sq (asgC (compM (valI X.SR (gt 2)) [(0,1),(1,3),(2,4)] (tupA 2 (consA (st' 3) (consA (st' 4) asN))) (tst X.SR (binE (gt 3) (tupE (esC (binE (gt 0) (binE (gt 2) (negE (cst (.int 1))) (getI X.SR)) (getI X.SR)) (esC (gt 1) esN))) (eqM X.SR false))) (gt 4) 1000) 6) (sq (asg (methB X.SR 2 (callE esN (f_law_class X)) (esC (gt 3) (esC (cst (.int 0)) esN)) (getB X.SR)) (st' 7)) (sq (iff' (andT (tst X.SR (binE (gt 6) (lstE esN) (eqM X.SR true))) (andT (orT (tst X.SR (binE (gt 5) (lstE esN) (eqM X.SR false))) (orT (andT (tst X.SR (binE (gt 7) (cst (.int 0)) (cmpI λa b=>decide (b<a)))) (andT (tst X.SR (binE (callE (esC (gt 5) esN) (maxB X.SR)) (gt 7) (cmpI λa b=>decide (a<b)))) trueT)) falseT)) trueT)) (sq (asg (binE (gt 6) (cst (.int 0)) (getI X.SR)) (subA (gt 1) (binE (gt 4) (negE (cst (.int 1))) (getI X.SR)))) (sq contS nextS)) nextS) nextS)))) nextS) (sq (doE (methB X.SR 1 (gt 1) (esC (gt 3) esN) appB)) nextS))) 1000) (sq (rtn (gt 1)) nextS)))
theorem s_law_together:SemB c (EC (topF 56).scope ["found","code","spots"]) nl_law_together 1 (topF 56).body (m_law_together c.xp):=bC (SemS.assign C (rP (rE (rQ R.esN) (rE (SemE.comp (nl':=["code"]) (cn':=[]) C (vI (rG T.g_law_parts)) rL (SemTs.one (tC rN R.cint (op_neM S))) (rP (rE (rC Keep.ty (rT T.b_tuple) (rE (rU (rG T.g_law_parts) rN) R.esN) (sem_tuple C S)) (rE rN R.esN))) (by decide) (by kernel_rfl) (λ_ _=>rfl)) R.esN))) (SemA.tup C (aC rX (aC rA R.asN)) rfl) (λ_=>rfl) (λ_ _=>rfl) (scEq λ_=>by kernel_rfl)) (bC (fR 1000 (vI rN) rX (bC (SemS.assign C (SemE.comp (nl':=["k","one"]) (cn':=[]) C (R.enuI C S (by kernel_rfl) (rT T.b_enumerate) (rE rN R.esN) ⟨_,_,rfl⟩) (SemA.tup C (aC rL (aC rL R.asN)) rfl) (SemTs.one (tC (mB F.plainAttrs_dict F.slot_dict_get (rC (Keep.adr T.kp404) (rG T.g_law_class) R.esN (cD (k_law_class C S D T U))) (rE rN (rE R.cint R.esN)) (sem_get S)) R.cint (op_eqM S))) rN (by decide) (by kernel_rfl) (λ_ _=>rfl)) rX (λ_=>rfl) (scEq λ_=>by kernel_rfl) (λ_ _=>rfl)) (bC (iF (tC rN (rQ R.esN) (op_neM S)) (bC (SemS.assignComp (nl':=["one"]) (cn':=[]) C (vI (sL rN (SemP.some (rO (rU rN (SemE.neg R.cint)) R.cint op_add)) R.pN)) rL R.tN (mB F.plainAttrs_dict F.slot_dict_get (rC (Keep.adr T.kp404) (rG T.g_law_class) R.esN (cD (k_law_class C S D T U))) (rE rN (rE R.cint R.esN)) (sem_get S)) (by decide) (by kernel_rfl) (λ_ _=>rfl) (by kernel_rfl) (λenv h=>.loc ((h.kind _).trans (by kernel_rfl))) (scEq λ_=>by kernel_rfl)) (bC (SemS.assignComp (nl':=["found","code","spots","pair","whole"]) (cn':=["found","code","spots"]) C (vI rN) (SemA.tup C (aC rL (aC rL R.asN)) rfl) (SemTs.one (tC rN (rP (rE (rU rN (rU rN (SemE.neg R.cint))) (rE rN R.esN))) (op_eqM S))) rN (by decide) (by kernel_rfl) (λ_ _=>rfl) (by kernel_rfl) (λenv h=>.loc ((h.kind _).trans (by kernel_rfl))) (scEq λ_=>by kernel_rfl)) (bC (aS (mB F.plainAttrs_dict F.slot_dict_get (rC (Keep.adr T.kp404) (rG T.g_law_class) R.esN (cD (k_law_class C S D T U))) (rE rN (rE R.cint R.esN)) (sem_get S)) rA) (bC (iF (SemT.boolop (tA (tC rN (rQ R.esN) (op_neM S)) (tA (SemT.boolop (tO (tC rN (rQ R.esN) (op_eqM S)) (tO (SemT.boolop (tA (tC rN R.cint op_gt) (tA (tC (rC Keep.bi (rB T.b_max) (rE rN R.esN) (sem_max C S)) rN op_lt) R.andN))) R.orN))) R.andN))) (bC (aS (rU rN R.cint) (aB rN (rU rN (SemE.neg R.cint)))) (bC R.cont R.bN)) R.bN) R.bN)))) R.bN) (bC (xS (mB F.plainAttrs_list F.slot_list_append rN (rE rN R.esN) (sem_append C))) R.bN)))) (bC (SemS.ret rN) R.bN))
noncomputable def f_law_together(X:XP):List V→M V:=fnM 1 [] (m_law_together X)
theorem k_law_together:SemCode c 2 436 (f_law_together c.xp):=SemCode.atC C T.fn_law_together (by kernel_rfl) (λ_=>by kernel_rfl) (by kernel_rfl) (by decide) (by decide) (s_law_together C S D T U) (by kernel_rfl) (by kernel_rfl) (by kernel_rfl)
noncomputable def nl_law_form:List Str:=["text","word","apart","code"]
noncomputable def m_law_form(X:XP):Loc→M (Loc×Fl):=(sq (asg (lstE esN) (st' 2)) (sq (forS (valI X.SR (gt 0)) (st' 3) (sq (asg (binE (gt 2) (callE (esC (gt 3) (esC (binE (binE (gt 1) (cst (.int 2)) (getI X.SR)) (cst (.str [107])) (eqM X.SR false)) esN)) (pureM X.RD X.B (f_law_apart X 9))) (catM X.SR)) (st' 2)) nextS) 1000) (sq (rtn (iteE (tst X.SR (binE (binE (gt 1) (negE (cst (.int 1))) (getI X.SR)) (cst (.str [99])) (eqM X.SR false))) (callE (esC (callE (esC (gt 2) esN) (pureM X.RD X.B (f_law_ordered X))) esN) (pureM X.RD X.B (f_law_together X))) (callE (esC (gt 2) esN) (pureM X.RD X.B (f_law_ordered X))))) nextS)))
theorem s_law_form:SemB c (EC (topF 57).scope []) nl_law_form 9 (topF 57).body (m_law_form c.xp):=bC (aS (rQ R.esN) rA) (bC (fR 1000 (vI rN) rA (bC (aS (rO rN (rC (Keep.adr T.kp424) (rG T.g_law_apart) (rE rN (rE (rM (rU rN R.cint) rS (op_eqM S)) R.esN)) (cP (cD (k_law_apart C S D T U)))) (op_cat C S)) rA) R.bN)) (bC (SemS.ret (SemE.ifexp C (tC (rU rN (SemE.neg R.cint)) rS (op_eqM S)) (rC (Keep.adr T.kp436) (rG T.g_law_together) (rE (rC (Keep.adr T.kp431) (rG T.g_law_ordered) (rE rN R.esN) (cP (cD (k_law_ordered C S D T U)))) R.esN) (cP (cD (k_law_together C S D T U)))) (rC (Keep.adr T.kp431) (rG T.g_law_ordered) (rE rN R.esN) (cP (cD (k_law_ordered C S D T U)))))) R.bN))
noncomputable def f_law_form(X:XP):List V→M V:=fnM 2 [] (m_law_form X)
theorem k_law_form:SemCode c 10 443 (f_law_form c.xp):=cA T.fn_law_form (s_law_form C S D T U)
noncomputable def nl_law_pick:List Str:=["deck","some"]
noncomputable def m_law_pick(X:XP):Loc→M (Loc×Fl):=(sq (rtn (binE (gt 1) (callE (esC (gt 0) (esC (callE (esC (gt 1) esN) (lenB X.SR)) esN)) (f_law_draw X)) (getI X.SR))) nextS)
theorem s_law_pick:SemB c (EC (topF 48).scope []) nl_law_pick 1 (topF 48).body (m_law_pick c.xp):=bC (SemS.ret (rU rN (rC (Keep.adr T.kp384) (rG T.g_law_draw) (rE rN (rE (rC Keep.bi (rB T.b_len) (rE rN R.esN) (sem_len S)) R.esN)) (cD (k_law_draw C S D T U))))) R.bN
noncomputable def f_law_pick(X:XP):List V→M V:=fnM 2 [] (m_law_pick X)
theorem k_law_pick:SemCode c 2 391 (f_law_pick c.xp):=cA T.fn_law_pick (s_law_pick C S D T U)
noncomputable def nl_law_prefix:List Str:=["one","other"]
noncomputable def m_law_prefix(X:XP):Loc→M (Loc×Fl):=(sq (rtn (callE (esC (compM (rngI' (esC (binE (callE (esC (callE (esC (gt 0) esN) (lenB X.SR)) (esC (callE (esC (gt 1) esN) (lenB X.SR)) esN)) (minB)) (cst (.int 1)) (addI)) esN)) [(0,0),(1,1)] (st' 2) (tst X.SR (binE (slcE X.SR (gt 0) noP (someP (gt 2))) (slcE X.SR (gt 1) noP (someP (gt 2))) (eqM X.SR false))) (gt 2) 1000) esN) (maxB X.SR))) nextS)
theorem s_law_prefix:SemB c (EC (topF 58).scope ["one","other"]) nl_law_prefix 0 (topF 58).body (m_law_prefix c.xp):=bC (SemS.ret (rC Keep.bi (rB T.b_max) (rE (SemE.comp (nl':=["one","other","k"]) (cn':=["one","other"]) C (R.rngI C (by kernel_rfl) (rT T.b_range) (rE (rO (rC Keep.bi (rB T.b_min) (rE (rC Keep.bi (rB T.b_len) (rE rN R.esN) (sem_len S)) (rE (rC Keep.bi (rB T.b_len) (rE rN R.esN) (sem_len S)) R.esN)) (sem_min C)) R.cint op_add) R.esN) ⟨_,_,rfl⟩) rL (SemTs.one (tC (sL rN R.pN (SemP.some rN)) (sL rN R.pN (SemP.some rN)) (op_eqM S))) rN (by decide) (by kernel_rfl) (λ_ _=>rfl)) R.esN) (sem_max C S))) R.bN
noncomputable def f_law_prefix(X:XP):List V→M V:=fnM 2 [] (m_law_prefix X)
theorem k_law_prefix:SemCode c 1 448 (f_law_prefix c.xp):=SemCode.atC C T.fn_law_prefix (by kernel_rfl) (λ_=>by kernel_rfl) (by kernel_rfl) (by decide) (by decide) (s_law_prefix C S D T U) (by kernel_rfl) (by kernel_rfl) (by kernel_rfl)
noncomputable def nl_common_prefix:List Str:=["one","other","many"]
noncomputable def m_common_prefix(X:XP):Loc→M (Loc×Fl):=(sq (asg (cst (.int 0)) (st' 2)) (sq (whileM (andT (tst X.SR (binE (gt 2) (callE (esC (gt 0) esN) (lenB X.SR)) (cmpI λa b=>decide (a<b)))) (andT (tst X.SR (binE (gt 2) (callE (esC (gt 1) esN) (lenB X.SR)) (cmpI λa b=>decide (a<b)))) (andT (tst X.SR (binE (binE (gt 0) (gt 2) (getI X.SR)) (binE (gt 1) (gt 2) (getI X.SR)) (eqM X.SR false))) trueT))) (sq (asg (binE (gt 2) (cst (.int 1)) (addI)) (st' 2)) nextS) 1000) (sq (rtn (gt 2)) nextS)))
theorem s_common_prefix:SemB c (EC (topF 5).scope []) nl_common_prefix 0 (topF 5).body (m_common_prefix c.xp):=bC (aS R.cint rA) (bC (SemS.while C 1000 (SemT.boolop (tA (tC rN (rC Keep.bi (rB T.b_len) (rE rN R.esN) (sem_len S)) op_lt) (tA (tC rN (rC Keep.bi (rB T.b_len) (rE rN R.esN) (sem_len S)) op_lt) (tA (tC (rU rN rN) (rU rN rN) (op_eqM S)) R.andN)))) (bC (aS (rO rN R.cint op_add) rA) R.bN)) (bC (SemS.ret rN) R.bN))
noncomputable def f_common_prefix(X:XP):List V→M V:=fnM 2 [] (m_common_prefix X)
theorem k_common_prefix:SemCode c 1 61 (f_common_prefix c.xp):=cA T.fn_common_prefix (s_common_prefix C S D T U)
noncomputable def nl_starts_at:List Str:=["text","part","at","step"]
noncomputable def m_starts_at(X:XP):Loc→M (Loc×Fl):=(sq (iff' (orT (tst X.SR (binE (gt 2) (cst (.int 0)) (cmpI λa b=>decide (a<b)))) (orT (tst X.SR (binE (binE (gt 2) (callE (esC (gt 1) esN) (lenB X.SR)) (addI)) (callE (esC (gt 0) esN) (lenB X.SR)) (cmpI λa b=>decide (b<a)))) falseT)) (sq (rtn (cst (.bool false))) nextS) nextS) (sq (forS (rngI' (esC (callE (esC (gt 1) esN) (lenB X.SR)) esN)) (st' 3) (sq (iff' (tst X.SR (binE (binE (gt 0) (binE (gt 2) (gt 3) (addI)) (getI X.SR)) (binE (gt 1) (gt 3) (getI X.SR)) (eqM X.SR true))) (sq (rtn (cst (.bool false))) nextS) nextS) nextS) 1000) (sq (rtn (cst (.bool true))) nextS)))
theorem s_starts_at:SemB c (EC (topF 6).scope []) nl_starts_at 0 (topF 6).body (m_starts_at c.xp):=bC (iF (SemT.boolop (tO (tC rN R.cint op_lt) (tO (tC (rO rN (rC Keep.bi (rB T.b_len) (rE rN R.esN) (sem_len S)) op_add) (rC Keep.bi (rB T.b_len) (rE rN R.esN) (sem_len S)) op_gt) R.orN))) (bC (SemS.ret R.cbool) R.bN) R.bN) (bC (fR 1000 (R.rngI C (by kernel_rfl) (rT T.b_range) (rE (rC Keep.bi (rB T.b_len) (rE rN R.esN) (sem_len S)) R.esN) ⟨_,_,rfl⟩) rA (bC (iF (tC (rU rN (rO rN rN op_add)) (rU rN rN) (op_neM S)) (bC (SemS.ret R.cbool) R.bN) R.bN) R.bN)) (bC (SemS.ret R.cbool) R.bN))
noncomputable def f_starts_at(X:XP):List V→M V:=fnM 3 [] (m_starts_at X)
theorem k_starts_at:SemCode c 1 68 (f_starts_at c.xp):=cA T.fn_starts_at (s_starts_at C S D T U)
noncomputable def nl_law:List Str:=["script","deck","data","text","word","was","cuts","due","stream","told","piece","some","rest","other","at"]
noncomputable def m_law_0(X:XP):Loc→M (Loc×Fl):=(asg (tupE (esC (callE (esC (gt 0) esN) (f_law_deck X)) (esC (callE esN (f_law_data X)) esN))) (tupA 2 (consA (st' 1) (consA (st' 2) asN))))
theorem s_law_0:SemS c (EC (topF 59).scope ["deck"]) nl_law 12 (((topF 59).body)[0]?.getD (.Pass ⟨0,0,0,0⟩)) (m_law_0 c.xp):=SemS.assign C (rP (rE (rC (Keep.adr T.kp377) (rG T.g_law_deck) (rE rN R.esN) (cD (k_law_deck C S D T U))) (rE (rC (Keep.adr T.kp417) (rG T.g_law_data) R.esN (cD (k_law_data C S D T U))) R.esN))) (SemA.tup C (aC rX (aC rA R.asN)) rfl) (λ_=>rfl) (λ_ _=>rfl) (scEq λ_=>by kernel_rfl)
noncomputable def m_law_1(X:XP):Loc→M (Loc×Fl):=(iff' (tst X.SR (binE (callE (esC (gt 1) (esC (cst (.int 4)) esN)) (f_law_draw X)) (cst (.int 0)) (eqM X.SR false))) (sq (asg (callE (esC (callE (esC (gt 1) (esC (cst (.adr 410)) esN)) (f_law_pick X)) esN) (listB X.SR)) (st' 3)) nextS) (sq (asgC (compM (rngI' (esC (callE (esC (gt 1) (esC (cst (.int 8)) esN)) (f_law_draw X)) esN)) [(0,1)] (st' 1) trueT (callE (esC (gt 0) (esC (cst (.adr 405)) esN)) (f_law_pick X)) 1000) 3) nextS))
theorem s_law_1:SemS c (EC (topF 59).scope ["deck"]) nl_law 12 (((topF 59).body)[1]?.getD (.Pass ⟨0,0,0,0⟩)) (m_law_1 c.xp):=iF (tC (rC (Keep.adr T.kp384) (rG T.g_law_draw) (rE rN (rE R.cint R.esN)) (cD (k_law_draw C S D T U))) R.cint (op_eqM S)) (bC (aS (rC Keep.ty (rT T.b_list) (rE (rC (Keep.adr T.kp391) (rG T.g_law_pick) (rE rN (rE (rG T.g_law_known) R.esN)) (cD (k_law_pick C S D T U))) R.esN) (sem_list C S)) rA) R.bN) (bC (SemS.assignComp (nl':=["deck","turn"]) (cn':=["deck"]) C (R.rngI C (by kernel_rfl) (rT T.b_range) (rE (rC (Keep.adr T.kp384) (rG T.g_law_draw) (rE rN (rE R.cint R.esN)) (cD (k_law_draw C S D T U))) R.esN) ⟨_,_,rfl⟩) rL R.tN (rC (Keep.adr T.kp391) (rG T.g_law_pick) (rE rN (rE (rG T.g_law_menu) R.esN)) (cD (k_law_pick C S D T U))) (by decide) (by kernel_rfl) (λ_ _=>rfl) (by kernel_rfl) (λenv h=>.loc ((h.kind _).trans (by kernel_rfl))) (scEq λ_=>by kernel_rfl)) R.bN)
noncomputable def m_law_2(X:XP):Loc→M (Loc×Fl):=(asgR (tupE (esC (callE (esC (gt 1) (esC (lstE (esC (cst (.str [110,102,100])) (esC (cst (.str [110,102,99])) (esC (cst (.str [110,102,107,100])) (esC (cst (.str [110,102,107,99])) esN))))) esN)) (f_law_pick X)) (esC (callE (esC (gt 3) esN) (listB X.SR)) esN))) [4,5])
theorem s_law_2:SemS c (EC (topF 59).scope ["deck"]) nl_law 12 (((topF 59).body)[2]?.getD (.Pass ⟨0,0,0,0⟩)) (m_law_2 c.xp):=sW (names:=["word","was"]) (rP (rE (rC (Keep.adr T.kp391) (rG T.g_law_pick) (rE rN (rE (rQ (rE rS (rE rS (rE rS (rE rS R.esN))))) R.esN)) (cD (k_law_pick C S D T U))) (rE (rC Keep.ty (rT T.b_list) (rE rN R.esN) (sem_list C S)) R.esN)))
noncomputable def m_law_3(X:XP):Loc→M (Loc×Fl):=(asg (callE (esC (lstE (esC (callE (esC (gt 1) (esC (binE (callE (esC (gt 3) esN) (lenB X.SR)) (cst (.int 1)) (addI)) esN)) (f_law_draw X)) (esC (callE (esC (gt 1) (esC (binE (callE (esC (gt 3) esN) (lenB X.SR)) (cst (.int 1)) (addI)) esN)) (f_law_draw X)) esN))) esN) (sortB X.SR)) (st' 6))
theorem s_law_3:SemS c (EC (topF 59).scope ["deck"]) nl_law 12 (((topF 59).body)[3]?.getD (.Pass ⟨0,0,0,0⟩)) (m_law_3 c.xp):=aS (rC Keep.bi (rB T.b_sorted) (rE (rQ (rE (rC (Keep.adr T.kp384) (rG T.g_law_draw) (rE rN (rE (rO (rC Keep.bi (rB T.b_len) (rE rN R.esN) (sem_len S)) R.cint op_add) R.esN)) (cD (k_law_draw C S D T U))) (rE (rC (Keep.adr T.kp384) (rG T.g_law_draw) (rE rN (rE (rO (rC Keep.bi (rB T.b_len) (rE rN R.esN) (sem_len S)) R.cint op_add) R.esN)) (cD (k_law_draw C S D T U))) R.esN))) R.esN) (sem_sort C S)) rA
noncomputable def m_law_4(X:XP):Loc→M (Loc×Fl):=(asgR (tupE (esC (callE (esC (gt 3) (esC (gt 4) esN)) (pureM X.RD X.B (f_law_form X))) (esC (callE (esC (gt 2) (esC (gt 4) esN)) (mkI 258 (f_FormStream_init X))) (esC (lstE esN) esN)))) [7,8,9])
theorem s_law_4:SemS c (EC (topF 59).scope ["deck"]) nl_law 12 (((topF 59).body)[4]?.getD (.Pass ⟨0,0,0,0⟩)) (m_law_4 c.xp):=sW (names:=["due","stream","told"]) (rP (rE (rC (Keep.adr T.kp443) (rG T.g_law_form) (rE rN (rE rN R.esN)) (cP (cD (k_law_form C S D T U)))) (rE (rC (Keep.cls T.kp258) (rG T.g_FormStream) (rE rN (rE rN R.esN)) (SemCall.make C T.mk258 T.in258 T.ty234 ((k_FormStream_init C S D T U).less (by decide)))) (rE (rQ R.esN) R.esN))))
noncomputable def m_law_5(X:XP):Loc→M (Loc×Fl):=(forS (valI X.SR (tupE (esC (slcE X.SR (gt 3) noP (someP (binE (gt 6) (cst (.int 0)) (getI X.SR)))) (esC (slcE X.SR (gt 3) (someP (binE (gt 6) (cst (.int 0)) (getI X.SR))) (someP (binE (gt 6) (cst (.int 1)) (getI X.SR)))) (esC (slcE X.SR (gt 3) (someP (binE (gt 6) (cst (.int 1)) (getI X.SR))) noP) esN))))) (st' 10) (sq (asg (callE (esC (Mine.meth 258 [112,117,116,95,97,108,108] (gt 8) (esC (gt 10) esN) (f_FormStream_put_all X)) esN) (listB X.SR)) (st' 11)) (sq (iff' (notT (tst X.SR (callE (esC (gt 7) (esC (gt 11) (esC (callE (esC (gt 9) esN) (lenB X.SR)) esN))) (pureM X.RD X.B (f_starts_at X))))) (sq (rtn (cst (.bool false))) nextS) nextS) (sq (asg (binE (gt 9) (gt 11) (catM X.SR)) (st' 9)) (sq (iff' (orT (tst X.SR (binE (callE (esC (gt 9) (esC (gt 7) esN)) (pureM X.RD X.B (f_common_prefix X))) (callE (esC (gt 9) esN) (lenB X.SR)) (eqM X.SR true))) (orT (tst X.SR (binE (gt 9) (slcE X.SR (gt 7) noP (someP (callE (esC (gt 9) esN) (lenB X.SR)))) (eqM X.SR true))) falseT)) (sq (rtn (cst (.bool false))) nextS) nextS) nextS)))) 1000)
theorem s_law_5:SemS c (EC (topF 59).scope ["deck"]) nl_law 12 (((topF 59).body)[5]?.getD (.Pass ⟨0,0,0,0⟩)) (m_law_5 c.xp):=fR 1000 (vI (rP (rE (sL rN R.pN (SemP.some (rU rN R.cint))) (rE (sL rN (SemP.some (rU rN R.cint)) (SemP.some (rU rN R.cint))) (rE (sL rN (SemP.some (rU rN R.cint)) R.pN) R.esN))))) rA (bC (aS (rC Keep.ty (rT T.b_list) (rE (mE T.cm258_put_all T.kp248 rN (rE rN R.esN) (cD (k_FormStream_put_all C S D T U))) R.esN) (sem_list C S)) rA) (bC (iF (SemT.not (tV (rC (Keep.adr T.kp68) (rG T.g_starts_at) (rE rN (rE rN (rE (rC Keep.bi (rB T.b_len) (rE rN R.esN) (sem_len S)) R.esN))) (cP (cD (k_starts_at C S D T U)))))) (bC (SemS.ret R.cbool) R.bN) R.bN) (bC (aS (rO rN rN (op_cat C S)) rA) (bC (iF (SemT.boolop (tO (tC (rC (Keep.adr T.kp61) (rG T.g_common_prefix) (rE rN (rE rN R.esN)) (cP (cD (k_common_prefix C S D T U)))) (rC Keep.bi (rB T.b_len) (rE rN R.esN) (sem_len S)) (op_neM S)) (tO (tC rN (sL rN R.pN (SemP.some (rC Keep.bi (rB T.b_len) (rE rN R.esN) (sem_len S)))) (op_neM S)) R.orN))) (bC (SemS.ret R.cbool) R.bN) R.bN) R.bN))))
noncomputable def m_law_6(X:XP):Loc→M (Loc×Fl):=(asg (callE (esC (Mine.meth 258 [102,105,110,105,115,104] (gt 8) esN (f_FormStream_finish X)) esN) (listB X.SR)) (st' 12))
theorem s_law_6:SemS c (EC (topF 59).scope ["deck"]) nl_law 12 (((topF 59).body)[6]?.getD (.Pass ⟨0,0,0,0⟩)) (m_law_6 c.xp):=aS (rC Keep.ty (rT T.b_list) (rE (mE T.cm258_finish T.kp255 rN R.esN (cD (k_FormStream_finish C S D T U))) R.esN) (sem_list C S)) rA
noncomputable def m_law_7(X:XP):Loc→M (Loc×Fl):=(iff' (orT (tst X.SR (binE (binE (gt 9) (gt 12) (catM X.SR)) (gt 7) (eqM X.SR true))) (orT (tst X.SR (binE (callE (esC (Mine.meth 258 [102,105,110,105,115,104] (gt 8) esN (f_FormStream_finish X)) esN) (listB X.SR)) (lstE esN) (eqM X.SR true))) (orT (tst X.SR (binE (gt 3) (gt 5) (eqM X.SR true))) falseT))) (sq (rtn (cst (.bool false))) nextS) nextS)
theorem s_law_7:SemS c (EC (topF 59).scope ["deck"]) nl_law 12 (((topF 59).body)[7]?.getD (.Pass ⟨0,0,0,0⟩)) (m_law_7 c.xp):=iF (SemT.boolop (tO (tC (rO rN rN (op_cat C S)) rN (op_neM S)) (tO (tC (rC Keep.ty (rT T.b_list) (rE (mE T.cm258_finish T.kp255 rN R.esN (cD (k_FormStream_finish C S D T U))) R.esN) (sem_list C S)) (rQ R.esN) (op_neM S)) (tO (tC rN rN (op_neM S)) R.orN)))) (bC (SemS.ret R.cbool) R.bN) R.bN
noncomputable def m_law_8(X:XP):Loc→M (Loc×Fl):=(asgR (tupE (esC (compM (rngI' (esC (callE (esC (gt 1) (esC (cst (.int 4)) esN)) (f_law_draw X)) esN)) [(0,1)] (st' 1) trueT (callE (esC (gt 0) (esC (lstE (esC (cst (.int 65)) (esC (cst (.int 768)) (esC (cst (.int 66)) esN)))) esN)) (f_law_pick X)) 1000) (esC (callE (esC (gt 1) (esC (binE (callE (esC (gt 3) esN) (lenB X.SR)) (cst (.int 2)) (addI)) esN)) (f_law_draw X)) esN))) [13,14])
theorem s_law_8:SemS c (EC (topF 59).scope ["deck"]) nl_law 12 (((topF 59).body)[8]?.getD (.Pass ⟨0,0,0,0⟩)) (m_law_8 c.xp):=sW (names:=["other","at"]) (rP (rE (SemE.comp (nl':=["deck","turn"]) (cn':=["deck"]) C (R.rngI C (by kernel_rfl) (rT T.b_range) (rE (rC (Keep.adr T.kp384) (rG T.g_law_draw) (rE rN (rE R.cint R.esN)) (cD (k_law_draw C S D T U))) R.esN) ⟨_,_,rfl⟩) rL R.tN (rC (Keep.adr T.kp391) (rG T.g_law_pick) (rE rN (rE (rQ (rE R.cint (rE R.cint (rE R.cint R.esN)))) R.esN)) (cD (k_law_pick C S D T U))) (by decide) (by kernel_rfl) (λ_ _=>rfl)) (rE (rC (Keep.adr T.kp384) (rG T.g_law_draw) (rE rN (rE (rO (rC Keep.bi (rB T.b_len) (rE rN R.esN) (sem_len S)) R.cint op_add) R.esN)) (cD (k_law_draw C S D T U))) R.esN)))
noncomputable def m_law_9(X:XP):Loc→M (Loc×Fl):=(iff' (orT (tst X.SR (binE (callE (esC (gt 3) (esC (gt 13) esN)) (pureM X.RD X.B (f_common_prefix X))) (callE (esC (gt 3) (esC (gt 13) esN)) (pureM X.RD X.B (f_law_prefix X))) (eqM X.SR true))) (orT (tst X.SR (binE (callE (esC (gt 13) (esC (gt 3) esN)) (pureM X.RD X.B (f_common_prefix X))) (callE (esC (gt 3) (esC (gt 13) esN)) (pureM X.RD X.B (f_law_prefix X))) (eqM X.SR true))) falseT)) (sq (rtn (cst (.bool false))) nextS) nextS)
theorem s_law_9:SemS c (EC (topF 59).scope ["deck"]) nl_law 12 (((topF 59).body)[9]?.getD (.Pass ⟨0,0,0,0⟩)) (m_law_9 c.xp):=iF (SemT.boolop (tO (tC (rC (Keep.adr T.kp61) (rG T.g_common_prefix) (rE rN (rE rN R.esN)) (cP (cD (k_common_prefix C S D T U)))) (rC (Keep.adr T.kp448) (rG T.g_law_prefix) (rE rN (rE rN R.esN)) (cP (cD (k_law_prefix C S D T U)))) (op_neM S)) (tO (tC (rC (Keep.adr T.kp61) (rG T.g_common_prefix) (rE rN (rE rN R.esN)) (cP (cD (k_common_prefix C S D T U)))) (rC (Keep.adr T.kp448) (rG T.g_law_prefix) (rE rN (rE rN R.esN)) (cP (cD (k_law_prefix C S D T U)))) (op_neM S)) R.orN))) (bC (SemS.ret R.cbool) R.bN) R.bN
noncomputable def m_law_10(X:XP):Loc→M (Loc×Fl):=(rtn (binE (callE (esC (callE (esC (gt 3) (esC (gt 13) (esC (gt 14) esN))) (pureM X.RD X.B (f_starts_at X))) esN) (boolB)) (andE X.SR (binE (binE (gt 14) (callE (esC (gt 13) esN) (lenB X.SR)) (addI)) (callE (esC (gt 3) esN) (lenB X.SR)) (cmpI λa b=>decide (a≤b))) (binE (slcE X.SR (gt 3) (someP (gt 14)) (someP (binE (gt 14) (callE (esC (gt 13) esN) (lenB X.SR)) (addI)))) (gt 13) (eqM X.SR false))) (eqM X.SR false)))
theorem s_law_10:SemS c (EC (topF 59).scope ["deck"]) nl_law 12 (((topF 59).body)[10]?.getD (.Pass ⟨0,0,0,0⟩)) (m_law_10 c.xp):=SemS.ret (rM (rC Keep.ty (rT T.b_bool) (rE (rC (Keep.adr T.kp68) (rG T.g_starts_at) (rE rN (rE rN (rE rN R.esN))) (cP (cD (k_starts_at C S D T U)))) R.esN) sem_bool) (SemE.boolop (SemEB.andCons C (rM (rO rN (rC Keep.bi (rB T.b_len) (rE rN R.esN) (sem_len S)) op_add) (rC Keep.bi (rB T.b_len) (rE rN R.esN) (sem_len S)) op_le) (SemEB.one (rM (sL rN (SemP.some rN) (SemP.some (rO rN (rC Keep.bi (rB T.b_len) (rE rN R.esN) (sem_len S)) op_add))) rN (op_eqM S))))) (op_eqM S))
end
section
variable{α β:Type}{l l' l1:Loc}{st st1 st2 st3:St}{SR:List (Nat×AO)}
theorem bnd{f:M α}{g:α→M β}{a:α}{r:Option (β×St)}(h:f st=some (a,st1))(h2:g a st1=r):(f >>= g) st=r:=by
 show(f st).bind (λp=>g p.1 p.2)=r
 rw[h];exact h2
theorem r_gt{i:Nat}{v:V}(h:lk i l=some v):gt i l st=some (v,st):=by unfold gt;rw[h];rfl
theorem r_bin{f g:Loc→M V}{o:V→V→M V}{a b:V}{r:Option (V×St)}(h1:f l st=some (a,st1))(h2:g l st1=some (b,st2))(h3:o a b st2=r):binE f g o l st=r:=bnd h1 (bnd h2 h3)
theorem r_call{fs:Loc→M (List V)}{g:List V→M V}{vs:List V}{r:Option (V×St)}(h1:fs l st=some (vs,st1))(h2:g vs st1=r):callE fs g l st=r:=bnd h1 h2
theorem r_esC{f:Loc→M V}{g:Loc→M (List V)}{a:V}{b:List V}(h1:f l st=some (a,st1))(h2:g l st1=some (b,st2)):esC f g l st=some (a::b,st2):=bnd h1 (bnd h2 rfl)
theorem r_lst{fs:Loc→M (List V)}{vs:List V}(h1:fs l st=some (vs,st1))(h2:Nat.ble vs.length 100000=true):lstE fs l st=some (.ref st1.n,st1.add (.list vs)):=bnd h1 (by unfold mkL;rw[h2])
theorem r_tup{fs:Loc→M (List V)}{vs:List V}(h1:fs l st=some (vs,st1))(h2:Nat.ble vs.length 100000=true):tupE fs l st=some (.tup vs,st1):=bnd h1 (bnd (a:=()) (st1:=st1) (by unfold guard';rw[h2]) rfl)
theorem r_tst{f:Loc→M V}{v:V}{b:Bool}(h1:f l st=some (v,st1))(h2:truV SR v st1=some b):tst SR f l st=some (b,st1):=bnd h1 (by unfold truM;rw[h2])
theorem r_notT{f:Loc→M Bool}{b:Bool}(h1:f l st=some (b,st1)):notT f l st=some (!b,st1):=bnd h1 rfl
theorem r_andT_t{f g:Loc→M Bool}{r:Option (Bool×St)}(h1:f l st=some (true,st1))(h2:g l st1=r):andT f g l st=r:=bnd h1 h2
theorem r_andT_f{f g:Loc→M Bool}(h1:f l st=some (false,st1)):andT f g l st=some (false,st1):=bnd h1 rfl
theorem r_orT_t{f g:Loc→M Bool}(h1:f l st=some (true,st1)):orT f g l st=some (true,st1):=bnd h1 rfl
theorem r_orT_f{f g:Loc→M Bool}{r:Option (Bool×St)}(h1:f l st=some (false,st1))(h2:g l st1=r):orT f g l st=r:=bnd h1 h2
theorem r_iteE_t{t:Loc→M Bool}{f g:Loc→M V}{r:Option (V×St)}(h1:t l st=some (true,st1))(h2:f l st1=r):iteE t f g l st=r:=bnd h1 h2
theorem r_iteE_f{t:Loc→M Bool}{f g:Loc→M V}{r:Option (V×St)}(h1:t l st=some (false,st1))(h2:g l st1=r):iteE t f g l st=r:=bnd h1 h2
theorem r_iff_t{t:Loc→M Bool}{f g:Loc→M (Loc×Fl)}{r:Option ((Loc×Fl)×St)}(h1:t l st=some (true,st1))(h2:f l st1=r):iff' t f g l st=r:=bnd h1 h2
theorem r_iff_f{t:Loc→M Bool}{f g:Loc→M (Loc×Fl)}{r:Option ((Loc×Fl)×St)}(h1:t l st=some (false,st1))(h2:g l st1=r):iff' t f g l st=r:=bnd h1 h2
theorem r_sq{f g:Loc→M (Loc×Fl)}{r:Option ((Loc×Fl)×St)}(h1:f l st=some ((l1,.next),st1))(h2:g l1 st1=r):sq f g l st=r:=bnd h1 h2
theorem r_sq_r{f g:Loc→M (Loc×Fl)}{v:V}(h1:f l st=some ((l1,.ret v),st1)):sq f g l st=some ((l1,.ret v),st1):=bnd h1 rfl
theorem r_sq_c{f g:Loc→M (Loc×Fl)}(h1:f l st=some ((l1,.cont),st1)):sq f g l st=some ((l1,.cont),st1):=bnd h1 rfl
theorem r_asg{f:Loc→M V}{g:V→Loc→M Loc}{v:V}(h1:f l st=some (v,st1))(h2:g v l st1=some (l1,st2)):asg f g l st=some ((l1,.next),st2):=bnd h1 (bnd h2 rfl)
theorem r_asgN{f:Loc→M V}{i:Nat}{v:V}(h1:f l st=some (v,st1)):asg f (st' i) l st=some ((up i v l,.next),st1):=bnd h1 rfl
theorem r_asgC{f:Loc→M V}{i:Nat}{v:V}(h1:f l st=some (v,st1)):asgC f i l st=some ((up i v l,.next),st1):=bnd h1 rfl
theorem r_asgR{f:Loc→M V}{is:List Nat}{vs:List V}(h1:f l st=some (.tup vs,st1))(h2:Nat.beq vs.length is.length=true):asgR f is l st=some ((stRev is vs l,.next),st1):=bnd h1 (by dsimp only;rw[h2];rfl)
theorem r_doE{f:Loc→M V}{v:V}(h1:f l st=some (v,st1)):doE f l st=some ((l,.next),st1):=bnd h1 rfl
theorem r_rtn{f:Loc→M V}{v:V}(h1:f l st=some (v,st1)):rtn f l st=some ((l,.ret v),st1):=bnd h1 rfl
theorem r_neg{f:Loc→M V}{i:Int}(h1:f l st=some (.int i,st1)):negE f l st=some (.int (-i),st1):=bnd h1 rfl
theorem r_someP{f:Loc→M V}{i:Int}(h1:f l st=some (.int i,st1)):someP f l st=some (some i,st1):=bnd h1 rfl
theorem r_fn{n:Nat}{ex:List V}{f:Loc→M (Loc×Fl)}{args:List V}{v:V}(hn:Nat.beq args.length n=true)(h:f (argsLoc 0 (args++ex)) st=some ((l1,.ret v),st1)):fnM n ex f args st=some (v,st1):=by
 unfold fnM;rw[hn];exact bnd h rfl
theorem r_cst{v:V}:cst v l st=some (v,st):=rfl
theorem r_esN:esN l st=some ([],st):=rfl
theorem r_trueT:trueT l st=some (true,st):=rfl
theorem r_falseT:falseT l st=some (false,st):=rfl
theorem r_nextS:nextS l st=some ((l,.next),st):=rfl
theorem r_contS:contS l st=some ((l,.cont),st):=rfl
theorem r_noP:noP l st=some (none,st):=rfl
theorem r_add{a b:Int}:addI (.int a) (.int b) st=some (.int (a+b),st):=rfl
theorem r_sub{a b:Int}:subI (.int a) (.int b) st=some (.int (a-b),st):=rfl
theorem r_cmp{g:Int→Int→Bool}{a b:Int}:cmpI g (.int a) (.int b) st=some (.bool (g a b),st):=rfl
theorem r_tb{b c:Bool}(h:b=c):truV SR (.bool b) st=some c:=by rw[h];rfl
theorem r_mod{a b:Int}(h:posB b=true):modI (.int a) (.int b) st=some (.int (Int.fmod a b),st):=by unfold modI i2;dsimp only;rw[h]
theorem r_div{a b:Int}(h:posB b=true):divI (.int a) (.int b) st=some (.int (Int.fdiv a b),st):=by unfold divI i2;dsimp only;rw[h]
theorem r_mul{a b:Int}(h:smallB a=true):mulI (.int a) (.int b) st=some (.int (a * b),st):=by unfold mulI i2;dsimp only;rw[h]
theorem posB_of{b:Int}(h:0<b)(h':b<9223372036854775808):posB b=true:=by unfold posB;rw[decide_eq_true h,decide_eq_true h'];rfl
theorem smallB_of{b:Int}(h: -9223372036854775808<b)(h':b<9223372036854775808):smallB b=true:=by unfold smallB;rw[decide_eq_true h,decide_eq_true h'];rfl
theorem rdO_H{k:Nat}{o:AO}(h:lk k st.H=some o):rdO k st=some o:=by unfold rdO;rw[h]
theorem rdO_F{k:Nat}{o:AO}(h:lk k st.H=none)(h':lk k st.F=some o):rdO k st=some o:=by unfold rdO;rw[h];exact h'
theorem r_lsV{k:Nat}{xs:List V}(h:rdO k st=some (.list xs)):lsV SR (.ref k) st=some xs:=by
 show(match rdO k st with|some (.list xs)=>some xs|_=>none)= _
 rw[h]
theorem r_len{k:Nat}{xs:List V}(h:rdO k st=some (.list xs))(h2:Nat.ble xs.length 1000000=true):lenB SR [.ref k] st=some (.int xs.length,st):=by
 unfold lenB lenV;dsimp only;rw[r_lsV h];dsimp only;rw[h2]
theorem ixL_natA{α:Type}{xs:List α}{k:Int}{j:Nat}{x:α}(h:xs[j]? =some x)(hf:fit63 k=true)(s:seqIndex? k xs.length=some j):ixL xs k=some x:=by
 unfold ixL
 rw[hf]
 dsimp only
 rw[s]
 exact h
theorem fit63_nat{j:Nat}(h:j<100000):fit63 (j:Int)=true:=by
 unfold fit63
 rw[Bool.and_eq_true,decide_eq_true_eq,decide_eq_true_eq]
 have e:(2:Int) ^ 63=9223372036854775808:=by decide
 rw[e]
 constructor <;> lia
theorem ixL_natB{α:Type}{xs:List α}{j:Nat}{x:α}{k:Int}(hk:k=(j:Int))(h:xs[j]? =some x)(hn:xs.length≤100000):ixL xs k=some x:=by
 have hj:=(List.getElem?_eq_some_iff.mp h).1
 refine ixL_natA h ?_ ?_
 ·rw[hk];exact fit63_nat (Nat.lt_of_lt_of_le hj hn)
 ·rw[hk]
  have h1:¬((j:Int)<0):=by lia
  have h2:(decide ((0:Int)≤(j:Int))&&decide ((j:Int)<(xs.length:Int)))=true:=by rw[Bool.and_eq_true,decide_eq_true_eq,decide_eq_true_eq];lia
  unfold seqIndex?
  simp only[h1,if_false,h2,if_true,Int.toNat_natCast]
theorem ixL_nat{α:Type}{xs:List α}{j:Nat}{x:α}(h:xs[j]? =some x)(hn:xs.length≤100000):ixL xs (j:Int)=some x:=ixL_natB rfl h hn
theorem ixL_last{α:Type}{xs:List α}{x:α}(h:xs.getLast? =some x):ixL xs (-1)=some x:=by
 have hne:xs≠[]:=by intro e;subst e;exact nos h
 have hp:=List.length_pos_iff.mpr hne
 refine ixL_natA (j:=xs.length-1) (by rw[←List.getLast?_eq_getElem?];exact h) (by decide) ?_
 have e:(-1:Int)+(xs.length:Int)=((xs.length-1:Nat):Int):=by omega
 have h2:(decide ((0:Int)≤((xs.length-1:Nat):Int))&&decide (((xs.length-1:Nat):Int)<(xs.length:Int)))=true:=by rw[Bool.and_eq_true,decide_eq_true_eq,decide_eq_true_eq];omega
 unfold seqIndex?
 simp only[show((-1:Int)<0)=True from by decide,if_true,e,h2,Int.toNat_natCast]
theorem r_ix{k:Nat}{xs:List V}{j:Int}{x:V}(h:rdO k st=some (.list xs))(hx:ixL xs j=some x):getI SR (.ref k) (.int j) st=some (x,st):=by
 unfold getI getV getOV
 dsimp only
 rw[show rdV SR (.ref k) st=some (.list xs)from h]
 show(match ixL xs j with|some x=>some (x,st)|none=>none)= _
 rw[hx]
theorem r_eq{neg:Bool}{a b:V}{r:Bool}(h:cmpEq SR a b st=some r):eqM SR neg a b st=some (.bool (Bool.xor neg r),st):=by unfold eqM;rw[h]
theorem r_eqF{a b:V}{r:Bool}(h:cmpEq SR a b st=some r):eqM SR false a b st=some (.bool r,st):=by rw[r_eq h,Bool.false_xor]
theorem r_eqT{a b:V}{r:Bool}(h:cmpEq SR a b st=some r):eqM SR true a b st=some (.bool (!r),st):=by rw[r_eq h,Bool.true_xor]
theorem r_eqI{a b:Int}:cmpEq SR (.int a) (.int b) st=some (decide (a=b)):=rfl
theorem r_for{g:Loc→M (Nat→St→Option (Option V))}{ga:V→Loc→M Loc}{fb:Loc→M (Loc×Fl)}{fuel:Nat}{item:Nat→St→Option (Option V)}{r:Option ((Loc×Fl)×St)}(h1:g l st=some (item,st1))(h2:forM' item ga fb fuel 0 l st1=r):forS g ga fb fuel l st=r:=bnd h1 h2
theorem r_forEnd{item:Nat→St→Option (Option V)}{ga:V→Loc→M Loc}{fb:Loc→M (Loc×Fl)}{n i:Nat}(h:item i st=some none):forM' item ga fb (n+1) i l st=some ((l,.next),st):=by
 unfold forM';rw[h]
theorem r_forStep{item:Nat→St→Option (Option V)}{ga:V→Loc→M Loc}{fb:Loc→M (Loc×Fl)}{n i:Nat}{v:V}{l2:Loc}{r:Option ((Loc×Fl)×St)}(h:item i st=some (some v))(ha:ga v l st=some (l1,st1))(hb:fb l1 st1=some ((l2,.next),st2))(hr:forM' item ga fb n (i+1) l2 st2=r):forM' item ga fb (n+1) i l st=r:=by
 unfold forM';rw[h];exact bnd ha (bnd hb hr)
theorem r_forStepC{item:Nat→St→Option (Option V)}{ga:V→Loc→M Loc}{fb:Loc→M (Loc×Fl)}{n i:Nat}{v:V}{l2:Loc}{r:Option ((Loc×Fl)×St)}(h:item i st=some (some v))(ha:ga v l st=some (l1,st1))(hb:fb l1 st1=some ((l2,.cont),st2))(hr:forM' item ga fb n (i+1) l2 st2=r):forM' item ga fb (n+1) i l st=r:=by
 unfold forM';rw[h];exact bnd ha (bnd hb hr)
theorem r_forStepR{item:Nat→St→Option (Option V)}{ga:V→Loc→M Loc}{fb:Loc→M (Loc×Fl)}{n i:Nat}{v w:V}{l2:Loc}(h:item i st=some (some v))(ha:ga v l st=some (l1,st1))(hb:fb l1 st1=some ((l2,.ret w),st2)):forM' item ga fb (n+1) i l st=some ((l2,.ret w),st2):=by
 unfold forM';rw[h];exact bnd ha (bnd hb rfl)
theorem r_while{ft:Loc→M Bool}{fb:Loc→M (Loc×Fl)}{n:Nat}{r:Option ((Loc×Fl)×St)}(ht:ft l st=some (true,st1))(hb:fb l st1=some ((l1,.next),st2))(hr:whileM ft fb n l1 st2=r):whileM ft fb (n+1) l st=r:=by
 unfold whileM;exact bnd ht (bnd hb hr)
theorem r_whileEnd{ft:Loc→M Bool}{fb:Loc→M (Loc×Fl)}{n:Nat}(ht:ft l st=some (false,st1)):whileM ft fb (n+1) l st=some ((l,.next),st1):=by
 unfold whileM;exact bnd ht rfl
theorem lk_same(i:Nat)(v:V)(l:Loc):lk i (up i v l)=some v:=by rw[lk_up,if_pos rfl]
theorem lk_other{α:Type}{i j:Nat}{v:α}{l:List (Nat×α)}{r:Option α}(h:Nat.beq i j=false)(h2:lk i l=r):lk i (up j v l)=r:=by rw[lk_up,if_neg (Nat.ne_of_beq_eq_false h)];exact h2
theorem lk_sameH{α:Type}(i:Nat)(v:α)(l:List (Nat×α)):lk i (up i v l)=some v:=by rw[lk_up,if_pos rfl]
end
noncomputable abbrev zV(a:List Int):List V:=a.map V.int
theorem zV_len(a:List Int):(zV a).length=a.length:=List.length_map ..
theorem zV_get{a:List Int}{i:Nat}{x:Int}(h:a[i]? =some x):(zV a)[i]? =some (.int x):=by rw[List.getElem?_map,h];rfl
theorem ble_of{a b:Nat}(h:a≤b):Nat.ble a b=true:=Nat.ble_eq_true_of_le h
theorem intsV_zV:∀a:List Int,intsV (zV a)=some a
 | []=>rfl
 |x::a=>by
  show(match intsV (zV a)with|some l=>some (x::l)|none=>none)= _
  rw[intsV_zV a]
theorem clos_zV{B:Nat}:∀a:List Int,V.clos B (zV a)=true
 | []=>by rw[zV,List.map_nil,V.clos]
 |x::a=>by
  have e:V.clo B (.int x)=true:=rfl
  rw[zV,List.map_cons,V.clos,e];exact clos_zV a
theorem eqLists_zV(a b:List Int):eqLists (zV a) (zV b)=some (decide (a=b)):=by
 unfold eqLists
 rw[intsV_zV,intsV_zV]
 dsimp only
 rw[eqZ_dec]
theorem fm_range{α:Type}(xs:List α)(a:Nat):∀n:Nat,(List.range n).filterMap (λi=>xs[a+i]?)=(xs.drop a).take n
 |0=>rfl
 |n+1=>by
  rw[List.range_succ,List.filterMap_append,fm_range xs a n,List.take_add_one,List.getElem?_drop]
  congr 1
theorem pick_nat{α:Type}{xs:List α}{lo hi:Option Int}{a b:Nat}(h:sliceBounds lo hi none xs.length=((a:Int),(b:Int),1)):pickV xs lo hi none=(xs.drop a).take (b-a):=by
 unfold pickV pickIx
 rw[h]
 dsimp only
 rw[sliceRange_one,List.filterMap_map,←fm_range]
 rfl
theorem pick_take{α:Type}{xs:List α}{k:Nat}:pickV xs none (some (k:Int)) none=xs.take k:=by
 rw[pick_nat (a:=0) (b:=min k xs.length) (by rw[sliceBounds_plain];simp[clipAt];rw[if_neg (by lia)];lia)]
 rw[List.drop_zero,Nat.sub_zero,List.take_eq_take_iff];lia
theorem pick_drop{α:Type}{xs:List α}{k:Nat}:pickV xs (some (k:Int)) none none=xs.drop k:=by
 rw[pick_nat (a:=min k xs.length) (b:=xs.length) (by rw[sliceBounds_plain];simp[clipAt];rw[if_neg (by lia)];lia)]
 rcases Nat.le_total k xs.length with h|h
 ·rw[Nat.min_eq_left h];exact List.take_of_length_le (by rw[List.length_drop];exact Nat.le_refl _)
 ·rw[Nat.min_eq_right h,List.drop_of_length_le (Nat.le_refl _),List.drop_of_length_le h,List.take_nil]
theorem pick_mid{α:Type}{xs:List α}{i k:Nat}(h:i≤k)(hk:k≤xs.length):pickV xs (some (i:Int)) (some (k:Int)) none=(xs.drop i).take (k-i):=
 pick_nat (by rw[sliceBounds_plain];simp[clipAt];lia)
theorem lk_head{α:Type}(k:Nat)(x:α)(l:List (Nat×α)):lk k ((k,x)::l)=some x:=by
 show(match Nat.beq k k with|true=>some x|false=>lk k l)= _
 rw[beq_eq,decide_eq_true rfl]
theorem lk_tail{α:Type}{k j:Nat}(x:α)(l:List (Nat×α))(h:j≠k):lk k ((j,x)::l)=lk k l:=by
 show(match Nat.beq j k with|true=>some x|false=>lk k l)= _
 rw[beq_eq,decide_eq_false h]
theorem lkH_new(st:St)(o:AO):lk st.n (st.add o).H=some o:=lk_head _ _ _
theorem lkH_old{st:St}{o:AO}{k:Nat}(h:k<st.n):lk k (st.add o).H=lk k st.H:=lk_tail _ _ (Nat.ne_of_gt h)
structure Ext (p:Nat→Prop) (st st':St):Prop where
 le:st.n≤st'.n
 fro:st'.F=st.F
 same:∀k,k<st.n→¬p k→lk k st'.H=lk k st.H
noncomputable abbrev No:Nat→Prop:=λ_=>False
theorem Ext.refl{p:Nat→Prop}{st:St}:Ext p st st:=⟨Nat.le_refl _,rfl,λ_ _ _=>rfl⟩
theorem Ext.add{p:Nat→Prop}{st:St}(o:AO):Ext p st (st.add o):=⟨Nat.le_succ _,rfl,λk h _=>lkH_old h⟩
theorem Ext.up{p:Nat→Prop}{st:St}{k:Nat}(o:AO)(h:p k):Ext p st {st with H:=up k o st.H}:=⟨Nat.le_refl _,rfl,λi _ q=>by
 show lk i (Mine.up k o st.H)= _
 rw[lk_up,if_neg (λe=>by subst e;exact q h)]⟩
theorem Ext.trans{p:Nat→Prop}{a b c:St}(x:Ext p a b)(y:Ext p b c):Ext p a c:=
 ⟨Nat.le_trans x.le y.le,y.fro.trans x.fro,λk h q=>(y.same k (Nat.lt_of_lt_of_le h x.le) q).trans (x.same k h q)⟩
theorem Ext.transN{p q:Nat→Prop}{a b c:St}(x:Ext p a b)(y:Ext q b c)(h:∀k,k<a.n→q k→p k):Ext p a c:=
 ⟨Nat.le_trans x.le y.le,y.fro.trans x.fro,λk hk n=>(y.same k (Nat.lt_of_lt_of_le hk x.le) λz=>n (h k hk z)).trans (x.same k hk n)⟩
theorem Ext.wide{p q:Nat→Prop}{a b:St}(x:Ext p a b)(h:∀k,p k→q k):Ext q a b:=⟨x.le,x.fro,λk hk n=>x.same k hk λz=>n (h k z)⟩
theorem Ext.rd{p:Nat→Prop}{a b:St}(x:Ext p a b){k:Nat}{o:AO}(h:rdO k a=some o)(hk:k<a.n)(hp:¬p k):rdO k b=some o:=by
 unfold rdO at h ⊢
 rw[x.same k hk hp,x.fro];exact h
theorem Ext.lk{p:Nat→Prop}{a b:St}(x:Ext p a b){k:Nat}{o:AO}(h:Mine.lk k a.H=some o)(hk:k<a.n)(hp:¬p k):Mine.lk k b.H=some o:=by
 rw[x.same k hk hp];exact h
section
variable{l l' l1:Loc}{st st1 st2 st3:St}{SR:List (Nat×AO)}
theorem r_slc{f:Loc→M V}{p q:Loc→M (Option Int)}{k:Nat}{a b:Option Int}{xs:List V}(h1:f l st=some (.ref k,st1))(h2:p l st1=some (a,st2))(h3:q l st2=some (b,st3))(hx:rdO k st3=some (.list xs))(hn:xs.length≤100000):
 slcE SR f p q l st=some (.ref st3.n,st3.add (.list (pickV xs a b none))):=bnd h1 (bnd h2 (bnd h3 (by unfold slcM;rw[r_lsV hx];dsimp only;rw[ble_of hn])))
theorem r_take{f:Loc→M V}{q:Loc→M (Option Int)}{k n:Nat}{a:List Int}(h1:f l st=some (.ref k,st1))(h2:q l st1=some (some (n:Int),st2))(hx:rdO k st2=some (.list (zV a)))(hn:a.length≤100000):
 slcE SR f noP q l st=some (.ref st2.n,st2.add (.list (zV (a.take n)))):=by
 rw[r_slc h1 r_noP h2 hx (by rw[zV_len];exact hn),pick_take,zV,zV,List.map_take]
theorem r_drop{f:Loc→M V}{p:Loc→M (Option Int)}{k n:Nat}{a:List Int}(h1:f l st=some (.ref k,st1))(h2:p l st1=some (some (n:Int),st2))(hx:rdO k st2=some (.list (zV a)))(hn:a.length≤100000):
 slcE SR f p noP l st=some (.ref st2.n,st2.add (.list (zV (a.drop n)))):=by
 rw[r_slc h1 h2 r_noP hx (by rw[zV_len];exact hn),pick_drop,zV,zV,List.map_drop]
theorem r_mid{f:Loc→M V}{p q:Loc→M (Option Int)}{k i n:Nat}{a:List Int}(h1:f l st=some (.ref k,st1))(h2:p l st1=some (some (i:Int),st2))(h3:q l st2=some (some (n:Int),st3))(hx:rdO k st3=some (.list (zV a)))(hin:i≤n)(hna:n≤a.length)(hn:a.length≤100000):
 slcE SR f p q l st=some (.ref st3.n,st3.add (.list (zV ((a.drop i).take (n-i))))):=by
 rw[r_slc h1 h2 h3 hx (by rw[zV_len];exact hn),pick_mid hin (by rw[zV_len];exact hna),zV,zV,List.map_take,List.map_drop]
theorem r_cat{k1 k2:Nat}{xs ys:List V}(h1:rdO k1 st=some (.list xs))(h2:rdO k2 st=some (.list ys))(hn:xs.length+ys.length≤100000):catM SR (.ref k1) (.ref k2) st=some (.ref st.n,st.add (.list (xs++ys))):=by
 unfold catM;rw[r_lsV h1,r_lsV h2];dsimp only;rw[ble_of hn]
theorem r_lst1{fs:Loc→M (List V)}{vs:List V}(h1:fs l st=some (vs,st1))(h2:vs.length≤100000):lstE fs l st=some (.ref st1.n,st1.add (.list vs)):=r_lst h1 (ble_of h2)
theorem r_app{k:Nat}{xs:List V}{x:V}(h:lk k st.H=some (.list xs))(hn:xs.length≤100000):appB [.ref k,x] st=some (.none,{st with H:=up k (.list (xs++[x])) st.H}):=
 bnd (a:=()) (st1:={st with H:=up k (.list (xs++[x])) st.H}) (by unfold appL;rw[h];dsimp only;rw[ble_of hn]) rfl
theorem r_appL{k:Nat}{xs:List V}{x:V}(h:lk k st.H=some (.list xs))(hn:xs.length≤100000):appL k x st=some ((),{st with H:=up k (.list (xs++[x])) st.H}):=by
 unfold appL;rw[h];dsimp only;rw[ble_of hn]
theorem zV_snoc(a:List Int)(x:Int):zV a++[.int x]=zV (a++[x]):=by rw[zV,zV,List.map_append];rfl
theorem r_appZ{k:Nat}{a:List Int}{x:Int}(h:lk k st.H=some (.list (zV a)))(hn:a.length≤100000):appL k (.int x) st=some ((),{st with H:=up k (.list (zV (a++[x]))) st.H}):=by
 rw[r_appL h (by rw[zV_len];exact hn),zV_snoc]
theorem r_appBZ{k:Nat}{a:List Int}{x:Int}(h:lk k st.H=some (.list (zV a)))(hn:a.length≤100000):appB [.ref k,.int x] st=some (.none,{st with H:=up k (.list (zV (a++[x]))) st.H}):=by
 rw[r_app h (by rw[zV_len];exact hn),zV_snoc]
theorem r_extZ{k j:Nat}{a b:List Int}(h:lk k st.H=some (.list (zV a)))(h2:rdO j st=some (.list (zV b)))(hn:a.length+b.length≤100000):extB SR [.ref k,.ref j] st=some (.none,{st with H:=up k (.list (zV (a++b))) st.H}):=by
 rw[show zV (a++b)=zV a++zV b by rw[zV,zV,zV,List.map_append]]
 exact bnd (a:=()) (st1:={st with H:=up k (.list (zV a++zV b)) st.H}) (by unfold extL;rw[h];dsimp only;rw[r_lsV h2];dsimp only;rw[ble_of (by rw[zV_len,zV_len];exact hn)]) rfl
theorem r_catZ{k1 k2:Nat}{a b:List Int}(h1:rdO k1 st=some (.list (zV a)))(h2:rdO k2 st=some (.list (zV b)))(hn:a.length+b.length≤100000):catM SR (.ref k1) (.ref k2) st=some (.ref st.n,st.add (.list (zV (a++b)))):=by
 rw[r_cat h1 h2 (by rw[zV_len,zV_len];exact hn),zV,zV,zV,List.map_append]
theorem r_methB{t:Nat}{f:Loc→M V}{fs:Loc→M (List V)}{g:List V→M V}{k:Nat}{o:AO}{vs:List V}{r:Option (V×St)}(h1:f l st=some (.ref k,st1))(ho:rdO k st1=some o)(hk:Nat.beq (kdO o) t=true)(h2:fs l st1=some (vs,st2))(h3:g (.ref k::vs) st2=r):methB SR t f fs g l st=r:=
 bnd h1 (bnd (a:=()) (st1:=st1) (by unfold kdV;rw[show rdV SR (.ref k) st1=some o from ho];dsimp only;rw[hk]) (bnd h2 h3))
theorem r_cmpL{k1 k2:Nat}{a b:List Int}(h1:rdO k1 st=some (.list (zV a)))(h2:rdO k2 st=some (.list (zV b))):cmpEq SR (.ref k1) (.ref k2) st=some (decide (a=b)):=by
 unfold cmpEq;rw[r_lsV h1,r_lsV h2];exact eqLists_zV a b
theorem r_comp{g:Loc→M (Nat→St→Option (Option V))}{fr:List (Nat×Nat)}{ga:V→Loc→M Loc}{ft:Loc→M Bool}{fe:Loc→M V}{fuel:Nat}{item:Nat→St→Option (Option V)}(h1:g l st=some (item,st1))(h2:compLp item ga ft fe st1.n fuel 0 (carry fr l) (st1.add (.list []))=some ((),st2)):
 compM g fr ga ft fe fuel l st=some (.ref st1.n,st2):=bnd h1 (bnd h2 rfl)
theorem r_compEnd{item:Nat→St→Option (Option V)}{ga:V→Loc→M Loc}{ft:Loc→M Bool}{fe:Loc→M V}{k n i:Nat}(h:item i st=some none):compLp item ga ft fe k (n+1) i l st=some ((),st):=by unfold compLp;rw[h]
theorem r_compT{item:Nat→St→Option (Option V)}{ga:V→Loc→M Loc}{ft:Loc→M Bool}{fe:Loc→M V}{k n i:Nat}{v x:V}{st4:St}{r:Option (Unit×St)}(h:item i st=some (some v))(ha:ga v l st=some (l1,st1))(ht:ft l1 st1=some (true,st2))(hx:fe l1 st2=some (x,st3))(hp:appL k x st3=some ((),st4))(hr:compLp item ga ft fe k n (i+1) l1 st4=r):compLp item ga ft fe k (n+1) i l st=r:=by
 unfold compLp;rw[h];exact bnd ha (bnd ht (bnd hx (bnd hp hr)))
theorem r_compF{item:Nat→St→Option (Option V)}{ga:V→Loc→M Loc}{ft:Loc→M Bool}{fe:Loc→M V}{k n i:Nat}{v:V}{r:Option (Unit×St)}(h:item i st=some (some v))(ha:ga v l st=some (l1,st1))(ht:ft l1 st1=some (false,st2))(hr:compLp item ga ft fe k n (i+1) l1 st2=r):compLp item ga ft fe k (n+1) i l st=r:=by
 unfold compLp;rw[h];exact bnd ha (bnd ht hr)
theorem r_valI{f:Loc→M V}{k:Nat}{xs:List V}(h1:f l st=some (.ref k,st1))(h:rdO k st1=some (.list xs)):valI SR f l st=some (itL SR (.ref k),st1):=bnd h1 (by
 unfold pickI
 dsimp only
 unfold rdO at h
 cases e:lk k st1.H with
 |some o=>rw[e]at h;cases h;rfl
 |none=>rw[e]at h;dsimp only at h ⊢;rw[h];rfl)
theorem r_itL{k i:Nat}{xs:List V}(h:rdO k st=some (.list xs)):itL SR (.ref k) i st=some xs[i]? :=by
 unfold itL;rw[show rdV SR (.ref k) st=some (.list xs)from h]
theorem fitB_nat{n:Nat}(h:n≤100000):fitB (n:Int)=true:=by
 unfold fitB
 rw[Bool.and_eq_true,decide_eq_true_eq,decide_eq_true_eq]
 have e:(2:Int) ^ 62=4611686018427387904:=by decide
 rw[e]
 constructor <;> lia
theorem r_rngK{fs:Loc→M (List V)}{k:Int}(h1:fs l st=some ([.int k],st1))(hf:fitB k=true):rngI' fs l st=some (itR 0 k.toNat,st1):=bnd h1 (by
 unfold rngI;dsimp only;rw[hf])
theorem r_rng1{fs:Loc→M (List V)}{n:Nat}(h1:fs l st=some ([.int n],st1))(hn:n≤100000):rngI' fs l st=some (itR 0 n,st1):=by
 rw[r_rngK h1 (fitB_nat hn),Int.toNat_natCast]
theorem r_itR{n i:Nat}(h:i<n):itR 0 n i st=some (some (.int (i:Int))):=by
 unfold itR;rw[ble_of (Nat.succ_le_of_lt h)];dsimp only;rw[Int.zero_add]
theorem r_itR_e{n i:Nat}(h:n≤i):itR 0 n i st=some none:=by
 unfold itR
 cases e:Nat.ble (i+1) n with
 |false=>rfl
 |true=>have:=Nat.le_of_ble_eq_true e;lia
variable{B:Nat}{RD:List (Nat×AO)}{g:List V→M V}{args vs:List V}{ex:List (Nat×AO)}
theorem canon_clo{i:Nat}{v:V}{r:List V}(hv:V.clo B v=true)(h:canon B st (i+1) r=some (vs,ex)):canon B st i (v::r)=some (v::vs,ex):=by unfold canon;rw[h];dsimp only;rw[hv]
theorem canon_list{i k:Nat}{r xs:List V}(hk:B≤k)(hx:rdO k st=some (.list xs))(hc:V.clos B xs=true)(h:canon B st (i+1) r=some (vs,ex)):canon B st i (.ref k::r)=some (.ref (B+i)::vs,(B+i,.list xs)::ex):=by
 have:V.clo B (.ref k)=false:=by
  rw[V.clo]
  cases e:Nat.blt k B with
  |false=>rfl
  |true=>exact absurd (Nat.le_of_ble_eq_true e) (Nat.not_le_of_lt (Nat.lt_succ_of_le hk))
 unfold canon;rw[h];dsimp only;rw[this];dsimp only;rw[hx];dsimp only;rw[hc]
theorem r_pureV{v:V}(hc:canon B st 0 args=some (vs,ex))(hg:g vs ⟨[],ex++RD,B+args.length⟩=some (v,st1))(hv:V.clo B v=true):pureM RD B g args st=some (v,st):=by
 unfold pureM;rw[hc];dsimp only;rw[hg];dsimp only;unfold expo;rw[hv]
theorem r_pureL{k:Nat}{ys:List V}(hc:canon B st 0 args=some (vs,ex))(hg:g vs ⟨[],ex++RD,B+args.length⟩=some (.ref k,st1))(hk:B≤k)(hl:lk k st1.H=some (.list ys))(hy:V.clos B ys=true):pureM RD B g args st=some (.ref st.n,st.add (.list ys)):=by
 have:V.clo B (.ref k)=false:=by
  rw[V.clo]
  cases e:Nat.blt k B with
  |false=>rfl
  |true=>exact absurd (Nat.le_of_ble_eq_true e) (Nat.not_le_of_lt (Nat.lt_succ_of_le hk))
 unfold pureM;rw[hc];dsimp only;rw[hg];dsimp only;unfold expo;rw[this];dsimp only;rw[hl];dsimp only;rw[hy]
end
theorem lz{a:List Int}(h:a.length≤1000000):Nat.ble (zV a).length 1000000=true:=ble_of (by rw[zV_len];exact h)
noncomputable def cpl:List Int→List Int→Nat
 |x::xs,y::ys=>if x=y then cpl xs ys+1 else 0
 |_,_=>0
theorem cplC{x y:Int}{a b:List Int}:cpl (x::a) (y::b)=if x=y then cpl a b+1 else 0:=rfl
section
variable{X:XP}{st:St}{k1 k2:Nat}{a b:List Int}
theorem cp_loop(h1:rdO k1 st=some (.list (zV a)))(h2:rdO k2 st=some (.list (zV b)))(n1:a.length≤1000)(n2:b.length≤1000):∀(a' b' p:List Int) (fuel:Nat),a=p++a'→b=p++b'→a'.length<fuel→
 whileM (andT (tst X.SR (binE (gt 2) (callE (esC (gt 0) esN) (lenB X.SR)) (cmpI λa b=>decide (a<b)))) (andT (tst X.SR (binE (gt 2) (callE (esC (gt 1) esN) (lenB X.SR)) (cmpI λa b=>decide (a<b)))) (andT (tst X.SR (binE (binE (gt 0) (gt 2) (getI X.SR)) (binE (gt 1) (gt 2) (getI X.SR)) (eqM X.SR false))) trueT))) (sq (asg (binE (gt 2) (cst (.int 1)) (addI)) (st' 2)) nextS) fuel
  [(0,.ref k1),(1,.ref k2),(2,.int p.length)] st=some (([(0,.ref k1),(1,.ref k2),(2,.int ((p.length+cpl a' b':Nat):Int))],.next),st)
 |a',b',p,0,_,_,hf=>absurd hf (Nat.not_lt_zero _)
 | [],b',p,f+1,ha,hb,hf=>by
   have:¬((p.length:Int)<((zV a).length:Int)):=by rw[zV_len,ha];simp
   refine r_whileEnd (r_andT_f ?_)
   exact(r_tst (r_bin (r_gt rfl) (r_call (r_esC (r_gt rfl) r_esN) (r_len h1 (lz (by lia)))) r_cmp) (r_tb (decide_eq_false this)))
 |x::a',[],p,f+1,ha,hb,hf=>by
  have e1:(p.length:Int)<((zV a).length:Int):=by rw[zV_len,ha,List.length_append,List.length_cons];lia
  have:¬((p.length:Int)<((zV b).length:Int)):=by rw[zV_len,hb];simp
  refine r_whileEnd (r_andT_t (st1:=st) ?_ (r_andT_f ?_))
  ·exact(r_tst (r_bin (r_gt rfl) (r_call (r_esC (r_gt rfl) r_esN) (r_len h1 (lz (by lia)))) r_cmp) (r_tb (decide_eq_true e1)))
  ·exact(r_tst (r_bin (r_gt rfl) (r_call (r_esC (r_gt rfl) r_esN) (r_len h2 (lz (by lia)))) r_cmp) (r_tb (decide_eq_false this)))
 |x::a',y::b',p,f+1,ha,hb,hf=>by
  have e1:(p.length:Int)<((zV a).length:Int):=by rw[zV_len,ha,List.length_append,List.length_cons];lia
  have e2:(p.length:Int)<((zV b).length:Int):=by rw[zV_len,hb,List.length_append,List.length_cons];lia
  have g1:ixL (zV a) (p.length:Int)=some (.int x):=ixL_nat (zV_get (by rw[ha,List.getElem?_append_right (Nat.le_refl _),Nat.sub_self];rfl)) (by rw[zV_len];lia)
  have g2:ixL (zV b) (p.length:Int)=some (.int y):=ixL_nat (zV_get (by rw[hb,List.getElem?_append_right (Nat.le_refl _),Nat.sub_self];rfl)) (by rw[zV_len];lia)
  by_cases e:x=y
  ·refine r_while (r_andT_t (st1:=st) ?_ (r_andT_t (st1:=st) ?_ (r_andT_t (st1:=st) ?_ r_trueT))) (r_sq (r_asgN (st1:=st) (v:=.int ((p.length:Int)+1)) ?_) r_nextS) ?_
   ·exact(r_tst (r_bin (r_gt rfl) (r_call (r_esC (r_gt rfl) r_esN) (r_len h1 (lz (by lia)))) r_cmp) (r_tb (decide_eq_true e1)))
   ·exact(r_tst (r_bin (r_gt rfl) (r_call (r_esC (r_gt rfl) r_esN) (r_len h2 (lz (by lia)))) r_cmp) (r_tb (decide_eq_true e2)))
   ·exact(r_tst (r_bin (r_bin (r_gt rfl) (r_gt rfl) (r_ix h1 g1)) (r_bin (r_gt rfl) (r_gt rfl) (r_ix h2 g2)) (r_eqF r_eqI)) (r_tb (decide_eq_true e)))
   ·exact(r_bin (r_gt rfl) r_cst r_add)
   ·have ih:=cp_loop h1 h2 n1 n2 a' b' (p++[x]) f (by rw[ha,List.append_assoc];rfl) (by rw[hb,←e,List.append_assoc];rfl) (by simp at hf;omega)
    rw[List.length_append]at ih
    have e3:cpl (x::a') (y::b')=cpl a' b'+1:=by rw[cplC,if_pos e]
    rw[e3,show p.length+(cpl a' b'+1)=p.length+ [x].length+cpl a' b' by simp;lia]
    exact ih
  ·have e3:cpl (x::a') (y::b')=0:=by rw[cplC,if_neg e]
   rw[e3]
   refine r_whileEnd (r_andT_t (st1:=st) ?_ (r_andT_t (st1:=st) ?_ (r_andT_f ?_)))
   ·exact(r_tst (r_bin (r_gt rfl) (r_call (r_esC (r_gt rfl) r_esN) (r_len h1 (lz (by lia)))) r_cmp) (r_tb (decide_eq_true e1)))
   ·exact(r_tst (r_bin (r_gt rfl) (r_call (r_esC (r_gt rfl) r_esN) (r_len h2 (lz (by lia)))) r_cmp) (r_tb (decide_eq_true e2)))
   ·exact(r_tst (r_bin (r_bin (r_gt rfl) (r_gt rfl) (r_ix h1 g1)) (r_bin (r_gt rfl) (r_gt rfl) (r_ix h2 g2)) (r_eqF r_eqI)) (r_tb (decide_eq_false e)))
theorem cp_run(h1:rdO k1 st=some (.list (zV a)))(h2:rdO k2 st=some (.list (zV b)))(n1:a.length≤500)(n2:b.length≤500):f_common_prefix X [.ref k1,.ref k2] st=some (.int (cpl a b),st):=by
 refine r_fn rfl (r_sq (r_asgN rfl) (r_sq (cp_loop h1 h2 (by lia) (by lia) a b [] 1000 rfl rfl (by lia)) (r_sq_r (r_rtn (r_gt ?_)))))
 show some (V.int ((0+cpl a b:Nat):Int))= _
 rw[Nat.zero_add]
noncomputable def pre:List Int→List Int→Bool
 | [],_=>true
 |_::_,[]=>false
 |y::ys,x::xs=>if x=y then pre ys xs else false
theorem preC{x y:Int}{a b:List Int}:pre (y::a) (x::b)=if x=y then pre a b else false:=rfl
noncomputable def saB(a b:List Int)(n:Nat):Bool:=decide (n+b.length≤a.length)&&pre b (a.drop n)
theorem sa_loop(h1:rdO k1 st=some (.list (zV a)))(h2:rdO k2 st=some (.list (zV b)))(n1:a.length≤1000)(n2:b.length≤1000){n:Nat}(hle:n+b.length≤a.length):∀(b' p:List Int) (fuel:Nat) (l:Loc),(∀v,up 3 v l=[(0,.ref k1),(1,.ref k2),(2,.int n),(3,v)])→b=p++b'→b'.length<fuel→
 ∃l2,forM' (itR 0 b.length) (st' 3) (sq (iff' (tst X.SR (binE (binE (gt 0) (binE (gt 2) (gt 3) (addI)) (getI X.SR)) (binE (gt 1) (gt 3) (getI X.SR)) (eqM X.SR true))) (sq (rtn (cst (.bool false))) nextS) nextS) nextS) fuel p.length l st=
  some ((l2,if pre b' (a.drop (n+p.length))=true then .next else .ret (.bool false)),st)
 |b',p,0,l,_,_,hf=>absurd hf (Nat.not_lt_zero _)
 | [],p,f+1,l,hl,hb,hf=>⟨l,by
   rw[show pre [] (a.drop (n+p.length))=true from rfl,if_pos rfl]
   exact r_forEnd (r_itR_e (by rw[hb,List.append_nil];exact Nat.le_refl _))⟩
 |y::b',p,f+1,l,hl,hb,hf=>by
  have hp:p.length<b.length:=by rw[hb,List.length_append,List.length_cons];lia
  obtain⟨x,hx⟩:∃x,a[n+p.length]? =some x:=⟨_,List.getElem?_eq_getElem (by lia)⟩
  have g1:ixL (zV a) ((n:Int)+(p.length:Int))=some (.int x):=ixL_natB (by lia) (zV_get hx) (by rw[zV_len];lia)
  have g2:ixL (zV b) (p.length:Int)=some (.int y):=ixL_nat (zV_get (by rw[hb,List.getElem?_append_right (Nat.le_refl _),Nat.sub_self];rfl)) (by rw[zV_len];lia)
  have ed:a.drop (n+p.length)=x::a.drop (n+p.length+1):=by
   refine E11 (List.getElem?_eq_some_iff.mp hx) λhlt hx'=>?_
   rw[List.drop_eq_getElem_cons hlt,hx']
  have ea:st' 3 (.int (p.length:Int)) l st=some ([(0,.ref k1),(1,.ref k2),(2,.int n),(3,.int (p.length:Int))],st):=congrArg (λz=>some (z,st)) (hl _)
  rw[ed,pre]
  by_cases e:x=y
  ·rw[if_pos e]
   refine E11 (sa_loop h1 h2 n1 n2 hle b' (p++[y]) f [(0,.ref k1),(1,.ref k2),(2,.int n),(3,.int (p.length:Int))] (λv=>rfl) (by rw[hb,List.append_assoc];rfl) (by simp at hf;omega)) λl2 ih=>?_
   refine I11 l2 (r_forStep (st1:=st) (st2:=st) (r_itR hp) ea (r_sq (r_iff_f (st1:=st) (r_tst (st1:=st) (v:=.bool (!decide (x=y))) ?_ (r_tb ?_)) r_nextS) r_nextS) ?_)
   ·exact(r_bin (r_bin (r_gt rfl) (r_bin (r_gt rfl) (r_gt rfl) r_add) (r_ix h1 g1)) (r_bin (r_gt rfl) (r_gt rfl) (r_ix h2 g2)) (r_eqT r_eqI))
   ·rw[decide_eq_true e];rfl
   ·rw[List.length_append]at ih;exact ih
  ·rw[if_neg e,if_neg (by decide)]
   refine I11 _ (r_forStepR (st1:=st) (st2:=st) (r_itR hp) ea (r_sq_r (r_iff_t (st1:=st) (r_tst (st1:=st) (v:=.bool (!decide (x=y))) ?_ (r_tb ?_)) (r_sq_r (r_rtn r_cst)))))
   ·exact(r_bin (r_bin (r_gt rfl) (r_bin (r_gt rfl) (r_gt rfl) r_add) (r_ix h1 g1)) (r_bin (r_gt rfl) (r_gt rfl) (r_ix h2 g2)) (r_eqT r_eqI))
   ·rw[decide_eq_false e];rfl
theorem sa_run(h1:rdO k1 st=some (.list (zV a)))(h2:rdO k2 st=some (.list (zV b)))(n1:a.length≤500)(n2:b.length≤500){n:Nat}:f_starts_at X [.ref k1,.ref k2,.int n] st=some (.bool (saB a b n),st):=by
 have h0:¬((n:Int)<0):=by lia
 unfold saB
 by_cases hle:n+b.length≤a.length
 ·have e:¬((zV a).length:Int)<(n:Int)+((zV b).length:Int):=by rw[zV_len,zV_len];lia
  refine E11 (sa_loop (X:=X) h1 h2 (by lia) (by lia) hle b [] 1000 [(0,.ref k1),(1,.ref k2),(2,.int n)] (λv=>rfl) rfl (by lia)) λl2 hloop=>?_
  have ef:forS (rngI' (esC (callE (esC (gt 1) esN) (lenB X.SR)) esN)) (st' 3) (sq (iff' (tst X.SR (binE (binE (gt 0) (binE (gt 2) (gt 3) (addI)) (getI X.SR)) (binE (gt 1) (gt 3) (getI X.SR)) (eqM X.SR true))) (sq (rtn (cst (.bool false))) nextS) nextS) nextS) 1000 [(0,.ref k1),(1,.ref k2),(2,.int n)] st=some ((l2,if pre b (a.drop n)=true then .next else .ret (.bool false)),st):=by
   refine r_for (r_rng1 (n:=b.length) ?_ (by lia)) hloop
   rw[←zV_len b]
   exact(r_esC (r_call (r_esC (r_gt rfl) r_esN) (r_len h2 (lz (by lia)))) r_esN)
  rw[decide_eq_true hle,Bool.true_and]
  cases q:pre b (a.drop n) with
  |true=>
   rw[q,if_pos rfl]at ef
   refine r_fn rfl (r_sq (r_iff_f (st1:=st) (r_orT_f (st1:=st) ?_ (r_orT_f (st1:=st) ?_ r_falseT)) r_nextS) (r_sq ef (r_sq_r (r_rtn r_cst))))
   ·exact(r_tst (r_bin (r_gt rfl) r_cst r_cmp) (r_tb (decide_eq_false h0)))
   ·exact(r_tst (r_bin (r_bin (r_gt rfl) (r_call (r_esC (r_gt rfl) r_esN) (r_len h2 (lz (by lia)))) r_add) (r_call (r_esC (r_gt rfl) r_esN) (r_len h1 (lz (by lia)))) r_cmp) (r_tb (decide_eq_false e)))
  |false=>
   rw[q,if_neg (by decide)]at ef
   refine r_fn rfl (r_sq (r_iff_f (st1:=st) (r_orT_f (st1:=st) ?_ (r_orT_f (st1:=st) ?_ r_falseT)) r_nextS) (r_sq_r ef))
   ·exact(r_tst (r_bin (r_gt rfl) r_cst r_cmp) (r_tb (decide_eq_false h0)))
   ·exact(r_tst (r_bin (r_bin (r_gt rfl) (r_call (r_esC (r_gt rfl) r_esN) (r_len h2 (lz (by lia)))) r_add) (r_call (r_esC (r_gt rfl) r_esN) (r_len h1 (lz (by lia)))) r_cmp) (r_tb (decide_eq_false e)))
 ·have e:((zV a).length:Int)<(n:Int)+((zV b).length:Int):=by rw[zV_len,zV_len];lia
  rw[decide_eq_false hle,Bool.false_and]
  refine r_fn rfl (r_sq_r (r_iff_t (st1:=st) (r_orT_f (st1:=st) ?_ (r_orT_t (st1:=st) ?_)) (r_sq_r (r_rtn r_cst))))
  ·exact(r_tst (r_bin (r_gt rfl) r_cst r_cmp) (r_tb (decide_eq_false h0)))
  ·exact(r_tst (r_bin (r_bin (r_gt rfl) (r_call (r_esC (r_gt rfl) r_esN) (r_len h2 (lz (by lia)))) r_add) (r_call (r_esC (r_gt rfl) r_esN) (r_len h1 (lz (by lia)))) r_cmp) (r_tb (decide_eq_true e)))
end
theorem cpl_le:∀a b:List Int,cpl a b≤a.length∧cpl a b≤b.length
 | [],_=>⟨Nat.zero_le _,Nat.zero_le _⟩
 |_::_,[]=>⟨Nat.zero_le _,Nat.zero_le _⟩
 |x::a,y::b=>by
  have:=cpl_le a b
  rw[cplC,List.length_cons,List.length_cons]
  split <;> lia
theorem cpl_take:∀a b:List Int,a.take (cpl a b)=b.take (cpl a b)
 | [],b=>by
   have:=(cpl_le [] b).1
   rw[List.length_nil]at this
   rw[Nat.le_zero.mp this];rfl
 |x::a,[]=>by
  have:=(cpl_le (x::a) []).2
  rw[List.length_nil]at this
  rw[Nat.le_zero.mp this];rfl
 |x::a,y::b=>by
  rw[cplC]
  split
  ·rename_i e
   rw[List.take_succ_cons,List.take_succ_cons,cpl_take a b,e]
  ·rfl
theorem cpl_max:∀(a b:List Int) (k:Nat),k≤a.length→k≤b.length→a.take k=b.take k→k≤cpl a b
 |_,_,0,_,_,_=>Nat.zero_le _
 | [],_,k+1,h,_,_=>by simp at h
 |_::_,[],k+1,_,h,_=>by simp at h
 |x::a,y::b,k+1,h1,h2,h=>by
  rw[List.take_succ_cons,List.take_succ_cons,List.cons.injEq]at h
  rw[cplC,if_pos h.1]
  exact Nat.succ_le_succ (cpl_max a b k (by simpa using h1) (by simpa using h2) h.2)
theorem maxZ_ne:∀ {ns:List Int},ns≠[]→∃m,maxZ ns=some m
 | [],h=>absurd rfl h
 |a::r,_=>by
  unfold maxZ
  cases maxZ r with
  |none=>exact I11 _ rfl
  |some b=>exact I11 _ rfl
theorem r_max{SR:List (Nat×AO)}{st:St}{k:Nat}{ns:List Int}{m:Int}(h:rdO k st=some (.list (zV ns)))(hm:maxZ ns=some m):maxB SR [.ref k] st=some (.int m,st):=by
 unfold maxB;dsimp only;rw[r_lsV h];dsimp only;rw[intsV_zV];dsimp only;rw[hm]
theorem r_min{st:St}{a b:Nat}:minB [.int a,.int b] st=some (.int ((min a b:Nat):Int),st):=by
 show some (V.int (if (b:Int)<(a:Int)then b else a),st)= _
 congr 3
 split <;> lia
section
variable{X:XP}{st:St}{k1 k2:Nat}{a b:List Int}
theorem lp_loop(n1:a.length≤1000)(n2:b.length≤1000){N kc:Nat}(e1:k1≠kc)(e2:k2≠kc):∀(m i fuel:Nat) (l:Loc) (st:St) (acc:List Int),i+m=N→(∀v,up 2 v l=[(0,.ref k1),(1,.ref k2),(2,v)])→
 rdO k1 st=some (.list (zV a))→rdO k2 st=some (.list (zV b))→k1<st.n→k2<st.n→kc<st.n→lk kc st.H=some (.list (zV acc))→acc.length≤i→N≤2000→m<fuel→
 ∃st2,compLp (itR 0 N) (st' 2) (tst X.SR (binE (slcE X.SR (gt 0) noP (someP (gt 2))) (slcE X.SR (gt 1) noP (someP (gt 2))) (eqM X.SR false))) (gt 2) kc fuel i l st=some ((),st2)∧
  lk kc st2.H=some (.list (zV (acc++((List.range' i m).filter λk=>decide (a.take k=b.take k)).map Int.ofNat)))
 |m,i,0,_,_,_,_,_,_,_,_,_,_,_,_,_,hf=>absurd hf (Nat.not_lt_zero _)
 |0,i,f+1,l,st,acc,hi,hl,h1,h2,l1,l2,lc,hk,ha,hN,hf=>⟨st,r_compEnd (r_itR_e (by lia)),by rw[hk];simp⟩
 |m+1,i,f+1,l,st,acc,hi,hl,h1,h2,l1,l2,lc,hk,ha,hN,hf=>by
  have ea:st' 2 (.int (i:Int)) l st=some ([(0,.ref k1),(1,.ref k2),(2,.int (i:Int))],st):=congrArg (λz=>some (z,st)) (hl _)
  have X1:Ext No st (st.add (.list (zV (a.take i)))):=.add _
  have h2':=X1.rd h2 l2 (λq=>q)
  have X2:Ext No (st.add (.list (zV (a.take i)))) ((st.add (.list (zV (a.take i)))).add (.list (zV (b.take i)))):=.add _
  have X12:=X1.trans X2
  have ra:rdO st.n ((st.add (.list (zV (a.take i)))).add (.list (zV (b.take i))))=some (.list (zV (a.take i))):=by
   exact rdO_H ((lkH_old (Nat.lt_succ_self _)).trans (lkH_new _ _))
  have rb:rdO (st.n+1) ((st.add (.list (zV (a.take i)))).add (.list (zV (b.take i))))=some (.list (zV (b.take i))):=by
   exact rdO_H (lkH_new (st.add (.list (zV (a.take i)))) _)
  have ht:∀q,decide (a.take i=b.take i)=q→tst X.SR (binE (slcE X.SR (gt 0) noP (someP (gt 2))) (slcE X.SR (gt 1) noP (someP (gt 2))) (eqM X.SR false)) [(0,.ref k1),(1,.ref k2),(2,.int (i:Int))] st=some (q,(st.add (.list (zV (a.take i)))).add (.list (zV (b.take i)))):=by
   intro q hq
   exact r_tst (r_bin (r_take (st2:=st) (r_gt rfl) (r_someP (r_gt rfl)) h1 (by lia)) (r_take (st2:=st.add (.list (zV (a.take i)))) (r_gt rfl) (r_someP (r_gt rfl)) h2' (by lia)) (r_eqF (r_cmpL ra rb))) (r_tb hq)
  have k':=X12.lk hk lc (λq=>q)
  rw[List.range'_succ]
  refine bc λhno=>?_;by_cases e:a.take i=b.take i
  ·have hap:=r_appZ (x:=(i:Int)) k' (by lia)
   have X3:Ext (· =kc) st {(st.add (.list (zV (a.take i)))).add (.list (zV (b.take i)))with H:=up kc (.list (zV (acc++[(i:Int)]))) ((st.add (.list (zV (a.take i)))).add (.list (zV (b.take i)))).H}:=(X12.wide λ_ q=>q.elim).trans (.up _ rfl)
   refine E12 (lp_loop n1 n2 e1 e2 m (i+1) f [(0,.ref k1),(1,.ref k2),(2,.int (i:Int))] _ (acc++[(i:Int)]) (by lia) (λv=>rfl) (X3.rd h1 l1 e1) (X3.rd h2 l2 e2) (Nat.lt_of_lt_of_le l1 X3.le) (Nat.lt_of_lt_of_le l2 X3.le) (Nat.lt_of_lt_of_le lc X3.le) (lk_sameH _ _ _) (by rw[List.length_append];exact Nat.add_le_add_right ha 1) hN (by lia)) λst2 r1 r2=>?_
   refine hno ?_;refine I12 st2 (r_compT (r_itR (by lia)) ea (ht true (decide_eq_true e)) (r_gt rfl) hap r1) ?_
   rw[r2,List.filter_cons,if_pos (by rw[decide_eq_true e]),List.map_cons,List.append_assoc];rfl
  ·have X3:Ext (· =kc) st ((st.add (.list (zV (a.take i)))).add (.list (zV (b.take i)))):=X12.wide λ_ q=>q.elim
   refine E12 (lp_loop n1 n2 e1 e2 m (i+1) f [(0,.ref k1),(1,.ref k2),(2,.int (i:Int))] _ acc (by lia) (λv=>rfl) (X3.rd h1 l1 e1) (X3.rd h2 l2 e2) (Nat.lt_of_lt_of_le l1 X3.le) (Nat.lt_of_lt_of_le l2 X3.le) (Nat.lt_of_lt_of_le lc X3.le) k' (Nat.le_succ_of_le ha) hN (by lia)) λst2 r1 r2=>?_
   refine hno ?_;refine I12 st2 (r_compF (r_itR (by lia)) ea (ht false (decide_eq_false e)) r1) ?_
   rw[r2,List.filter_cons,if_neg (by rw[decide_eq_false e];decide)]
theorem lp_run(h1:rdO k1 st=some (.list (zV a)))(h2:rdO k2 st=some (.list (zV b)))(l1:k1<st.n)(l2:k2<st.n)(n1:a.length≤500)(n2:b.length≤500):∃st2,f_law_prefix X [.ref k1,.ref k2] st=some (.int (cpl a b),st2):=by
 have X1:Ext No st (st.add (.list [])):=.add _
 refine E12 (lp_loop (X:=X) (a:=a) (b:=b) (by lia) (by lia) (N:=min a.length b.length+1) (kc:=st.n) (Nat.ne_of_lt l1) (Nat.ne_of_lt l2) (min a.length b.length+1) 0 1000 [(0,.ref k1),(1,.ref k2)] (st.add (.list [])) [] (Nat.zero_add _) (λv=>rfl) (X1.rd h1 l1 λq=>q) (X1.rd h2 l2 λq=>q) (Nat.lt_succ_of_lt l1) (Nat.lt_succ_of_lt l2) (Nat.lt_succ_self _) (lkH_new _ _) (Nat.le_refl _) (by lia) (by lia)) λst2 r1 r2=>?_
 rw[List.nil_append]at r2
 have hm:maxZ (((List.range' 0 (min a.length b.length+1)).filter λk=>decide (a.take k=b.take k)).map Int.ofNat)=some (cpl a b:Int):=by
  have hin:(cpl a b:Int)∈((List.range' 0 (min a.length b.length+1)).filter λk=>decide (a.take k=b.take k)).map Int.ofNat:=by
   refine List.mem_map.mpr ⟨cpl a b,List.mem_filter.mpr ⟨?_,decide_eq_true (cpl_take a b)⟩,rfl⟩
   have:=cpl_le a b
   exact List.mem_range'_1.mpr ⟨Nat.zero_le _,by lia⟩
  refine E11 (maxZ_ne (List.ne_nil_of_mem hin)) λm hm=>?_
  rw[hm,maxZ_spec hm hin λz hz=>?_]
  refine E12 (List.mem_map.mp hz) λk hk q9722=>?_;clear h1 h2 l1 l2 n1 n2 X1 r1 r2 hin hm hz;subst q9722
  refine E02 (List.mem_filter.mp hk) λhk1 hk2=>?_
  have:=(List.mem_range'_1.mp hk1).2
  exact Int.ofNat_le.mpr (cpl_max a b k (by lia) (by lia) (of_decide_eq_true hk2))
 refine I11 st2 (r_fn rfl (r_sq_r (r_rtn (r_call (r_esC (r_comp (st1:=st) (r_rng1 (n:=min a.length b.length+1) ?_ (by lia)) r1) r_esN) (r_max (rdO_H r2) hm)))))
 refine r_esC (r_bin (r_call (r_esC (r_call (r_esC (r_gt rfl) r_esN) (r_len h1 (ble_of (by rw[zV_len];lia)))) (r_esC (r_call (r_esC (r_gt rfl) r_esN) (r_len h2 (ble_of (by rw[zV_len];lia)))) r_esN)) r_min) r_cst ?_) r_esN
 rw[zV_len,zV_len];rfl
end
noncomputable def clsT:List (Int×V):=[(768,.int 230),(770,.int 230),(803,.int 220),(837,.int 240)]
noncomputable def cls(c:Int):Int:=if 768=c then 230 else if 770=c then 230 else if 803=c then 220 else if 837=c then 240 else 0
theorem clsV(c:Int):(lkI c clsT).getD (.int 0)=.int (cls c):=by
 unfold clsT cls
 simp only[lkI]
 repeat' (split <;> simp_all)
section
variable{X:XP}{l:Loc}{st:St}
theorem r_cls{fk:Loc→M V}{c:Int}(h:fk l (st.add (.idt clsT))=some (.int c,st.add (.idt clsT))):
 methB X.SR 2 (callE esN (f_law_class X)) (esC fk (esC (cst (.int 0)) esN)) (getB X.SR) l st=some (.int (cls c),st.add (.idt clsT)):=by
 refine r_methB (k:=st.n) (st1:=st.add (.idt clsT)) (st2:=st.add (.idt clsT)) (o:=.idt clsT) (r_call r_esN rfl) (rdO_H (lkH_new _ _)) rfl (r_esC h (r_esC r_cst r_esN)) ?_
 show gtD X.SR (.ref st.n) (.int c) (.int 0) (st.add (.idt clsT))= _
 unfold gtD
 rw[show rdV X.SR (.ref st.n) (st.add (.idt clsT))=some (.idt clsT)from rdO_H (lkH_new _ _)]
 dsimp only[gtO]
 have e:=clsV c
 cases q:lkI c clsT with
 |none=>rw[q]at e;exact congrArg (λv=>some (v,st.add (.idt clsT))) e
 |some v=>rw[q]at e;exact congrArg (λv=>some (v,st.add (.idt clsT))) e
noncomputable def bk(a:List Int)(w:Int):Nat→Nat
 |0=>0
 |n+1=>if 0<w∧w<cls (a.getD n 0)then bk a w n else n+1
noncomputable def ins(a:List Int)(c:Int):List Int:=a.take (bk a (cls c) a.length)++[c]++a.drop (bk a (cls c) a.length)
theorem bk_le(a:List Int)(w:Int):∀n,bk a w n≤n
 |0=>Nat.le_refl _
 |n+1=>by
  rw[bk];split
  ·exact Nat.le_succ_of_le (bk_le a w n)
  ·exact Nat.le_refl _
theorem ins_len(a:List Int)(c:Int):(ins a c).length=a.length+1:=by
 unfold ins
 have:=bk_le a (cls c) a.length
 simp only[List.length_append,List.length_take,List.length_drop,List.length_cons,List.length_nil]
 lia
theorem bk_loop{k0 kf:Nat}{a:List Int}{cv:V}{w:Int}(n1:a.length≤1000):∀(n fuel:Nat) (st:St),n≤a.length→rdO kf st=some (.list (zV a))→kf<st.n→n<fuel→
 ∃st2,whileM (andT (tst X.SR (binE (gt 4) (cst (.int 0)) (cmpI λa b=>decide (b<a)))) (andT (tst X.SR (binE (gt 3) (cst (.int 0)) (cmpI λa b=>decide (b<a)))) (andT (tst X.SR (binE (methB X.SR 2 (callE esN (f_law_class X)) (esC (binE (gt 1) (binE (gt 3) (cst (.int 1)) (subI)) (getI X.SR)) (esC (cst (.int 0)) esN)) (getB X.SR)) (gt 4) (cmpI λa b=>decide (b<a)))) trueT))) (sq (asg (binE (gt 3) (cst (.int 1)) (subI)) (st' 3)) nextS) fuel
  [(0,.ref k0),(1,.ref kf),(2,cv),(4,.int w),(3,.int n)] st=some (([(0,.ref k0),(1,.ref kf),(2,cv),(4,.int w),(3,.int (bk a w n:Nat))],.next),st2)∧Ext No st st2
 |n,0,_,_,_,_,hf=>absurd hf (Nat.not_lt_zero _)
 |0,f+1,st,hn,h1,hk,hf=>by
  refine I12 st ?_ .refl
  by_cases hw:0<w
  ·refine r_whileEnd (r_andT_t (st1:=st) ?_ (r_andT_f ?_))
   ·exact(r_tst (r_bin (r_gt rfl) r_cst r_cmp) (r_tb (decide_eq_true hw)))
   ·have e:¬((0:Int)<((0:Nat):Int)):=by decide
    exact(r_tst (r_bin (r_gt rfl) r_cst r_cmp) (r_tb (decide_eq_false e)))
  ·exact r_whileEnd (r_andT_f (r_tst (r_bin (r_gt rfl) r_cst r_cmp) (r_tb (decide_eq_false hw))))
 |n+1,f+1,st,hn,h1,hk,hf=>by
  have hp:(0:Int)<((n+1:Nat):Int):=by lia
  rw[bk]
  by_cases hw:0<w
  ·obtain⟨x,hx⟩:∃x,a[n]? =some x:=⟨_,List.getElem?_eq_getElem hn⟩
   have ed:a.getD n 0=x:=by rw[List.getD_eq_getElem?_getD,hx];rfl
   have X1:Ext No st (st.add (.idt clsT)):=.add _
   have h1':=X1.rd h1 hk λq=>q
   have g1:ixL (zV a) (((n+1:Nat):Int)-1)=some (.int x):=ixL_natB (j:=n) (by lia) (zV_get hx) (by rw[zV_len];lia)
   have t3:∀q,decide (w<cls x)=q→tst X.SR (binE (methB X.SR 2 (callE esN (f_law_class X)) (esC (binE (gt 1) (binE (gt 3) (cst (.int 1)) (subI)) (getI X.SR)) (esC (cst (.int 0)) esN)) (getB X.SR)) (gt 4) (cmpI λa b=>decide (b<a)))
    [(0,.ref k0),(1,.ref kf),(2,cv),(4,.int w),(3,.int ((n+1:Nat):Int))] st=some (q,st.add (.idt clsT)):=by
    intro q hq
    refine r_tst (r_bin (r_cls (c:=x) ?_) (r_gt rfl) r_cmp) (r_tb hq)
    exact(r_bin (r_gt rfl) (r_bin (r_gt rfl) r_cst r_sub) (r_ix h1' g1))
   rw[ed]
   by_cases hc:w<cls x
   ·rw[if_pos ⟨hw,hc⟩]
    obtain⟨st2,r1,r2⟩:=bk_loop n1 n f (st.add (.idt clsT)) (by lia) h1' (Nat.lt_succ_of_lt hk) (by lia)
    refine I12 st2 (r_while (st1:=st.add (.idt clsT)) (st2:=st.add (.idt clsT)) (r_andT_t (st1:=st) ?_ (r_andT_t (st1:=st) ?_ (r_andT_t (t3 true (decide_eq_true hc)) r_trueT))) (r_sq (r_asgN (r_bin (r_gt rfl) r_cst r_sub)) r_nextS) ?_) (X1.trans r2)
    ·exact(r_tst (r_bin (r_gt rfl) r_cst r_cmp) (r_tb (decide_eq_true hw)))
    ·exact(r_tst (r_bin (r_gt rfl) r_cst r_cmp) (r_tb (decide_eq_true hp)))
    ·rw[show((n+1:Nat):Int)-1=(n:Int) by lia];exact r1
   ·rw[if_neg λh=>hc h.2]
    refine I12 _ (r_whileEnd (r_andT_t (st1:=st) ?_ (r_andT_t (st1:=st) ?_ (r_andT_f (t3 false (decide_eq_false hc)))))) X1
    ·exact(r_tst (r_bin (r_gt rfl) r_cst r_cmp) (r_tb (decide_eq_true hw)))
    ·exact(r_tst (r_bin (r_gt rfl) r_cst r_cmp) (r_tb (decide_eq_true hp)))
  ·rw[if_neg λh=>hw h.1]
   exact I12 st (r_whileEnd (r_andT_f (r_tst (r_bin (r_gt rfl) r_cst r_cmp) (r_tb (decide_eq_false hw))))) .refl
theorem lo_turn{k0 kf:Nat}{a:List Int}{c:Int}(n1:a.length≤900){l:Loc}(hl:∀v u z,stRev [3,4] [u,z] (up 2 v l)=[(0,.ref k0),(1,.ref kf),(2,v),(4,z),(3,u)])(g1:lk 1 (up 2 (.int c) l)=some (.ref kf))(g2:lk 2 (up 2 (.int c) l)=some (.int c))
 (h1:rdO kf st=some (.list (zV a))) (hk:kf<st.n):
 ∃st2 kf2 m,(sq (asgR (tupE (esC (callE (esC (gt 1) esN) (lenB X.SR)) (esC (methB X.SR 2 (callE esN (f_law_class X)) (esC (gt 2) (esC (cst (.int 0)) esN)) (getB X.SR)) esN))) [3,4]) (sq (whileM (andT (tst X.SR (binE (gt 4) (cst (.int 0)) (cmpI λa b=>decide (b<a)))) (andT (tst X.SR (binE (gt 3) (cst (.int 0)) (cmpI λa b=>decide (b<a)))) (andT (tst X.SR (binE (methB X.SR 2 (callE esN (f_law_class X)) (esC (binE (gt 1) (binE (gt 3) (cst (.int 1)) (subI)) (getI X.SR)) (esC (cst (.int 0)) esN)) (getB X.SR)) (gt 4) (cmpI λa b=>decide (b<a)))) trueT))) (sq (asg (binE (gt 3) (cst (.int 1)) (subI)) (st' 3)) nextS) 1000) (sq (asg (binE (binE (slcE X.SR (gt 1) noP (someP (gt 3))) (lstE (esC (gt 2) esN)) (catM X.SR)) (slcE X.SR (gt 1) (someP (gt 3)) noP) (catM X.SR)) (st' 1)) nextS))) (up 2 (.int c) l) st
  =some (([(0,.ref k0),(1,.ref kf2),(2,.int c),(4,.int (cls c)),(3,.int m)],.next),st2)∧Ext No st st2∧lk kf2 st2.H=some (.list (zV (ins a c)))∧kf2<st2.n∧st.n≤kf2:=by
 have X1:Ext No st (st.add (.idt clsT)):=.add _
 refine bc λhno=>?_;refine E12 (bk_loop (X:=X) (k0:=k0) (kf:=kf) (cv:=.int c) (w:=cls c) (by lia) a.length 1000 (st.add (.idt clsT)) (Nat.le_refl _) (X1.rd h1 hk λq=>q) (Nat.lt_succ_of_lt hk) (by lia)) λst2 r1 X2=>?_
 have X12:=X1.trans X2
 have f2:=X12.rd h1 hk λq=>q
 have hk2:=Nat.lt_of_lt_of_le hk X12.le
 refine hno ?_;generalize bk_m:bk a (cls c) a.length=m at r1
 have Y1:Ext No st2 (st2.add (.list (zV (a.take m)))):=.add _
 have Y2:Ext No (st2.add (.list (zV (a.take m)))) ((st2.add (.list (zV (a.take m)))).add (.list (zV [c]))):=.add _
 have Y12:=Y1.trans Y2
 have Y3:Ext No ((st2.add (.list (zV (a.take m)))).add (.list (zV [c]))) (((st2.add (.list (zV (a.take m)))).add (.list (zV [c]))).add (.list (zV (a.take m++[c])))):=.add _
 have Y123:=Y12.trans Y3
 have Y4:Ext No (((st2.add (.list (zV (a.take m)))).add (.list (zV [c]))).add (.list (zV (a.take m++[c])))) ((((st2.add (.list (zV (a.take m)))).add (.list (zV [c]))).add (.list (zV (a.take m++[c])))).add (.list (zV (a.drop m)))):=.add _
 have tl:(a.take m).length≤900:=by rw[List.length_take];lia
 have c1:catM X.SR (.ref st2.n) (.ref (st2.n+1)) ((st2.add (.list (zV (a.take m)))).add (.list (zV [c])))=some (.ref (st2.n+2),((st2.add (.list (zV (a.take m)))).add (.list (zV [c]))).add (.list (zV (a.take m++[c])))):=
  r_catZ (rdO_H ((lkH_old (Nat.lt_succ_self _)).trans (lkH_new _ _))) (rdO_H (lkH_new (st2.add _) _)) (by simp;lia)
 have c2:catM X.SR (.ref (st2.n+2)) (.ref (st2.n+3)) ((((st2.add (.list (zV (a.take m)))).add (.list (zV [c]))).add (.list (zV (a.take m++[c])))).add (.list (zV (a.drop m))))=some (.ref (st2.n+4),((((st2.add (.list (zV (a.take m)))).add (.list (zV [c]))).add (.list (zV (a.take m++[c])))).add (.list (zV (a.drop m)))).add (.list (zV ((a.take m++[c])++a.drop m)))):=
  r_catZ (rdO_H ((lkH_old (Nat.lt_succ_self _)).trans (lkH_new ((st2.add _).add _) _))) (rdO_H (lkH_new (((st2.add _).add _).add _) _)) (by simp;omega)
 refine I35 _ (st2.n+4) (m:Int) (r_sq (r_asgR (vs:=[.int ((zV a).length:Int),.int (cls c)]) (st1:=st.add (.idt clsT)) (r_tup (r_esC (st1:=st) (r_call (r_esC (r_gt g1) r_esN) (r_len h1 (ble_of (by rw[zV_len];lia)))) (r_esC (r_cls (c:=c) (r_gt g2)) r_esN)) rfl) rfl) (r_sq (st1:=st2) (l1:=[(0,.ref k0),(1,.ref kf),(2,.int c),(4,.int (cls c)),(3,.int m)]) ?_ (r_sq (r_asgN (r_bin (r_bin (r_take (st2:=st2) (a:=a) (n:=m) (r_gt rfl) (r_someP (r_gt rfl)) f2 (by lia)) (r_lst1 (vs:=zV [c]) (r_esC (r_gt rfl) r_esN) (by simp)) c1) (r_drop (a:=a) (n:=m) (r_gt rfl) (r_someP (r_gt rfl)) (Y123.rd f2 hk2 λq=>q) (by lia)) c2)) r_nextS))) ((X12.trans (Y123.trans Y4)).trans (.add _)) ?_ (Nat.lt_succ_self _) (Nat.le_trans X12.le (Nat.le_add_right _ _))
 ·rw[hl,zV_len];exact r1
 ·rw[ins,bk_m];exact lkH_new ((((st2.add _).add _).add _).add _) _
end
noncomputable def lo_body(X:XP):Loc→M (Loc×Fl):=(sq (asgR (tupE (esC (callE (esC (gt 1) esN) (lenB X.SR)) (esC (methB X.SR 2 (callE esN (f_law_class X)) (esC (gt 2) (esC (cst (.int 0)) esN)) (getB X.SR)) esN))) [3,4]) (sq (whileM (andT (tst X.SR (binE (gt 4) (cst (.int 0)) (cmpI λa b=>decide (b<a)))) (andT (tst X.SR (binE (gt 3) (cst (.int 0)) (cmpI λa b=>decide (b<a)))) (andT (tst X.SR (binE (methB X.SR 2 (callE esN (f_law_class X)) (esC (binE (gt 1) (binE (gt 3) (cst (.int 1)) (subI)) (getI X.SR)) (esC (cst (.int 0)) esN)) (getB X.SR)) (gt 4) (cmpI λa b=>decide (b<a)))) trueT))) (sq (asg (binE (gt 3) (cst (.int 1)) (subI)) (st' 3)) nextS) 1000) (sq (asg (binE (binE (slcE X.SR (gt 1) noP (someP (gt 3))) (lstE (esC (gt 2) esN)) (catM X.SR)) (slcE X.SR (gt 1) (someP (gt 3)) noP) (catM X.SR)) (st' 1)) nextS)))
structure ShLO (k0 kf:Nat) (l:Loc):Prop where
 s:∀v u z,stRev [3,4] [u,z] (up 2 v l)=[(0,.ref k0),(1,.ref kf),(2,v),(4,z),(3,u)]
 g1:∀v,lk 1 (up 2 v l)=some (.ref kf)
 g2:∀v,lk 2 (up 2 v l)=some v
 g:lk 1 l=some (.ref kf)
theorem lo_loop{X:XP}{k0 N0:Nat}{ts:List Int}:∀(ts' p:List Int) (fuel:Nat) (l:Loc) (st:St) (a:List Int) (kf:Nat),ts=p++ts'→ShLO k0 kf l→rdO k0 st=some (.list (zV ts))→k0<st.n→lk kf st.H=some (.list (zV a))→kf<st.n→a.length+ts'.length≤800→ts'.length<fuel→N0≤kf→N0≤st.n→
 ∃l2 st2 kf2,forM' (itL X.SR (.ref k0)) (st' 2) (lo_body X) fuel p.length l st=some ((l2,.next),st2)∧lk 1 l2=some (.ref kf2)∧lk kf2 st2.H=some (.list (zV (ts'.foldl ins a)))∧N0≤kf2
 |ts',p,0,_,_,_,_,_,_,_,_,_,_,_,hf,_,_=>absurd hf (Nat.not_lt_zero _)
 | [],p,f+1,l,st,a,kf,e,sh,h0,hk,h1,hkf,hn,hf,n1,n2=>⟨l,st,kf,r_forEnd (by rw[r_itL h0,e,List.append_nil,List.getElem?_eq_none (by rw[zV_len];exact Nat.le_refl _)]),sh.g,h1,n1⟩
 |c::ts',p,f+1,l,st,a,kf,e,sh,h0,hk,h1,hkf,hn,hf,n1,n2=>by
  have hit:itL X.SR (.ref k0) p.length st=some (some (.int c)):=by
   rw[r_itL h0,zV_get (x:=c) (by rw[e,List.getElem?_append_right (Nat.le_refl _),Nat.sub_self];rfl)]
  rw[List.length_cons]at hn hf
  refine bc λhno=>?_;obtain⟨st2,kf2,m,r1,x,r2,r3,r4⟩:=lo_turn (X:=X) (k0:=k0) (kf:=kf) (a:=a) (c:=c) (by lia) (sh.s) (sh.g1 _) (sh.g2 _) (rdO_H h1) hkf
  obtain⟨l2,st3,kf3,q1,q2,q3⟩:=lo_loop ts' (p++[c]) f [(0,.ref k0),(1,.ref kf2),(2,.int c),(4,.int (cls c)),(3,.int m)] st2 (ins a c) kf2 (by rw[e,List.append_assoc];rfl) ⟨λ_ _ _=>rfl,λ_=>rfl,λ_=>rfl,rfl⟩ (x.rd h0 hk λq=>q) (Nat.lt_of_lt_of_le hk x.le) r2 r3 (by rw[ins_len];lia) (by lia) (Nat.le_trans n2 r4) (Nat.le_trans n2 x.le)
  rw[List.length_append]at q1
  refine hno ?_;exact⟨l2,st3,kf3,r_forStep hit rfl r1 q1,q2,q3⟩
theorem lo_run{X:XP}{st:St}{k0:Nat}{ts:List Int}(h0:rdO k0 st=some (.list (zV ts)))(hk:k0<st.n)(hn:ts.length≤700):∃st2 k,f_law_ordered X [.ref k0] st=some (.ref k,st2)∧lk k st2.H=some (.list (zV (ts.foldl ins [])))∧st.n≤k:=by
 have X1:Ext No st (st.add (.list [])):=.add _
 refine E33 (lo_loop (X:=X) (k0:=k0) (ts:=ts) ts [] 1000 [(0,.ref k0),(1,.ref st.n)] (st.add (.list [])) [] st.n rfl ⟨λ_ _ _=>rfl,λ_=>rfl,λ_=>rfl,rfl⟩ (X1.rd h0 hk λq=>q) (Nat.lt_succ_of_lt hk) (lkH_new _ _) (Nat.lt_succ_self _) (by simp;lia) (by lia) (Nat.le_refl st.n) (Nat.le_succ _)) λl2 st2 kf2 r1 r2 r3=>?_
 exact I22 st2 kf2 (r_fn rfl (r_sq (r_asgN (r_lst1 r_esN (Nat.zero_le _))) (r_sq (r_for (r_valI (r_gt rfl) (X1.rd h0 hk λq=>q)) r1) (r_sq_r (r_rtn (r_gt r2)))))) r3
section
variable{st:St}
theorem comp_go{item:Nat→St→Option (Option V)}{ga:V→Loc→M Loc}{ft:Loc→M Bool}{fe:Loc→M V}{kc N:Nat}{base:St}(Sh:Loc→Prop)(b:Nat→Bool)(e:Nat→V)(hN:N≤900)
 (hs:∀(i:Nat) (l:Loc) (st:St),i<N→Sh l→Ext (· =kc) base st→∃v l1 st2,item i st=some (some v)∧ga v l st=some (l1,st)∧Sh l1∧ft l1 st=some (b i,st2)∧Ext No st st2∧(b i=true→∃st3,fe l1 st2=some (e i,st3)∧Ext No st2 st3))
 (he:∀st:St,Ext (· =kc) base st→item N st=some none):∀(m i fuel:Nat) (l:Loc) (st:St) (acc:List V),i+m=N→Sh l→Ext (· =kc) base st→lk kc st.H=some (.list acc)→kc<st.n→acc.length≤i→m<fuel→
 ∃st2,compLp item ga ft fe kc fuel i l st=some ((),st2)∧lk kc st2.H=some (.list (acc++((List.range' i m).filter b).map e))∧Ext (· =kc) base st2
 |m,i,0,_,_,_,_,_,_,_,_,_,hf=>absurd hf (Nat.not_lt_zero _)
 |0,i,f+1,l,st,acc,hi,sh,x,hk,hl,ha,hf=>⟨st,r_compEnd (by rw[show i=N by omega];exact he st x),by rw[hk];simp,x⟩
 |m+1,i,f+1,l,st,acc,hi,sh,x,hk,hl,ha,hf=>by
  refine E36 (hs i l st (by lia) sh x) λv l1 st2 h1 h2 h3 h4 h5 h6=>?_
  have x2:Ext (· =kc) base st2:=x.trans (h5.wide λ_ q=>q.elim)
  have hk2:=h5.lk hk hl λq=>q
  have hl2:=Nat.lt_of_lt_of_le hl h5.le
  rw[List.range'_succ]
  refine bc λhno=>?_;cases q:b i with
  |true=>
   refine E12 (h6 q) λst3 h7 h8=>?_
   have hk3:=h8.lk hk2 hl2 λq=>q
   have hl3:=Nat.lt_of_lt_of_le hl2 h8.le
   have hap:=r_appL (x:=e i) hk3 (by lia)
   refine E13 (comp_go Sh b e hN hs he m (i+1) f l1 {st3 with H:=up kc (.list (acc++[e i])) st3.H} (acc++[e i]) (by lia) h3 ((x2.trans (h8.wide λ_ q=>q.elim)).trans (.up _ rfl)) (lk_sameH _ _ _) hl3 (by rw[List.length_append];exact Nat.add_le_add_right ha 1) (by lia)) λst5 r1 r2 r3=>?_
   rw[q]at h4
   refine hno ?_;refine I13 st5 (r_compT h1 h2 h4 h7 hap r1) ?_ r3
   rw[r2,List.filter_cons,if_pos q,List.map_cons,List.append_assoc];rfl
  |false=>
   rw[q]at h4
   refine E13 (comp_go Sh b e hN hs he m (i+1) f l1 st2 acc (by lia) h3 x2 hk2 hl2 (Nat.le_succ_of_le ha) (by lia)) λst5 r1 r2 r3=>?_
   refine hno ?_;refine I13 st5 (r_compF h1 h2 h4 r1) ?_ r3
   rw[r2,List.filter_cons,if_neg (by rw[q];decide)]
theorem comp_run{g:Loc→M (Nat→St→Option (Option V))}{fr:List (Nat×Nat)}{item:Nat→St→Option (Option V)}{ga:V→Loc→M Loc}{ft:Loc→M Bool}{fe:Loc→M V}{N:Nat}{l:Loc}{st1:St}(Sh:Loc→Prop)(b:Nat→Bool)(e:Nat→V)(hN:N≤900)(hg:g l st=some (item,st1))(hx:Ext No st st1)(h0:Sh (carry fr l))
 (hs:∀(i:Nat) (l:Loc) (st:St),i<N→Sh l→Ext No st1 st→∃v l1 st2,item i st=some (some v)∧ga v l st=some (l1,st)∧Sh l1∧ft l1 st=some (b i,st2)∧Ext No st st2∧(b i=true→∃st3,fe l1 st2=some (e i,st3)∧Ext No st2 st3))
 (he:∀st:St,Ext No st1 st→item N st=some none):∃st2,compM g fr ga ft fe 1000 l st=some (.ref st1.n,st2)∧lk st1.n st2.H=some (.list (((List.range' 0 N).filter b).map e))∧Ext No st st2∧st1.n<st2.n:=by
 have X1:Ext No st1 (st1.add (.list [])):=.add _
 have to:∀st2,Ext (· =st1.n) (st1.add (.list [])) st2→Ext No st1 st2:=λst2 x=>X1.transN x λk hk q=>Nat.lt_irrefl _ (q▸hk)
 refine E13 (comp_go (item:=item) (ga:=ga) (ft:=ft) (fe:=fe) (kc:=st1.n) (base:=st1.add (.list [])) Sh b e hN (λi l st hi sh x=>hs i l st hi sh (to st x)) (λst x=>he st (to st x)) N 0 1000 (carry fr l) (st1.add (.list [])) [] (Nat.zero_add _) h0 .refl (lkH_new _ _) (Nat.lt_succ_self _) (Nat.le_refl _) (by lia)) λst2 r1 r2 r3=>?_
 exact I14 st2 (r_comp hg r1) r2 (hx.trans (to st2 r3)) (Nat.lt_of_lt_of_le (Nat.lt_succ_self _) r3.le)
end
noncomputable def spots(a:List Int):List Nat:=(List.range' 0 a.length).filter λk=>decide (cls (a.getD k 0)=0)
noncomputable def prs:List ((Int×Int)×Int):=[((65,768),192),((65,770),194),((65,803),7840),((194,768),7846)]
noncomputable def prV(p:(Int×Int)×Int):V:=.tup [.tup [.int p.1.1,.int p.1.2],.int p.2]
noncomputable def prB(x c:Int)(p:(Int×Int)×Int):Bool:=decide (p.1.1=x)&&(decide (p.1.2=c)&&true)
noncomputable def mk(x c:Int):List Int:=((List.range' 0 prs.length).filter λi=>prB x c (prs.getD i ((0,0),0))).map λi=>(prs.getD i ((0,0),0)).2
noncomputable def togB(a:List Int)(s:Nat)(c:Int):Bool:= !decide (mk (a.getD s 0) c=[])&&(decide ((a.drop (s+1)).map cls=[])||(decide (0<cls c)&&decide ((maxZ ((a.drop (s+1)).map cls)).getD 0<cls c)))
noncomputable def tog(a:List Int)(c:Int):List Int:=match (spots a).getLast? with
 |none=>a++[c]
 |some s=>match togB a s c with
  |true=>a.set s ((mk (a.getD s 0) c).headD 0)
  |false=>a++[c]
theorem map_idx(f:Int→V)(a:List Int):(List.range' 0 a.length).map (λi=>f (a.getD i 0))=a.map f:=by
 apply List.ext_getElem
 ·simp
 ·intro i h1 h2
  simp at h2
  simp[h2]
section
variable{X:XP}{st:St}{l:Loc}
theorem r_enu{fs:Loc→M (List V)}{k:Nat}{xs:List V}{st1:St}(h1:fs l st=some ([.ref k],st1))(h:rdO k st1=some (.list xs)):enuI X.SR fs l st=some (itE X.SR (.ref k),st1):=bnd h1 (by unfold enmI;dsimp only;rw[r_lsV h])
theorem r_itE{k i:Nat}{a:List Int}(h:rdO k st=some (.list (zV a))):itE X.SR (.ref k) i st=some (match a[i]? with|some x=>some (.tup [.int i,.int x])|none=>none):=by
 unfold itE
 rw[show rdV X.SR (.ref k) st=some (.list (zV a))from h]
 dsimp only
 rw[List.getElem?_map]
 cases a[i]? <;> rfl
theorem sp_run{kf:Nat}{a:List Int}(n1:a.length≤800)(hl:lk 1 l=some (.ref kf))(h1:rdO kf st=some (.list (zV a)))(hk:kf<st.n):∃st2,(compM (enuI X.SR (esC (gt 1) esN)) [] (tupA 2 (consA (st' 0) (consA (st' 1) asN))) (tst X.SR (binE (methB X.SR 2 (callE esN (f_law_class X)) (esC (gt 1) (esC (cst (.int 0)) esN)) (getB X.SR)) (cst (.int 0)) (eqM X.SR false))) (gt 0) 1000) l st=some (.ref st.n,st2)∧lk st.n st2.H=some (.list (zV ((spots a).map Int.ofNat)))∧Ext No st st2∧st.n<st2.n:=by
 refine bc λhno=>?_;obtain⟨st2,r1,r2,r3⟩:=comp_run (st:=st) (st1:=st) (fr:=[]) (N:=a.length) (g:=enuI X.SR (esC (gt 1) esN)) (ga:=tupA 2 (consA (st' 0) (consA (st' 1) asN))) (ft:=tst X.SR (binE (methB X.SR 2 (callE esN (f_law_class X)) (esC (gt 1) (esC (cst (.int 0)) esN)) (getB X.SR)) (cst (.int 0)) (eqM X.SR false))) (fe:=gt 0) (l:=l)
  (λl=>∀u v,lk 0 (up 1 v (up 0 u l))=some u∧lk 1 (up 1 v (up 0 u l))=some v) (λk=>decide (cls (a.getD k 0)=0)) (λi=>.int i) (by lia) (r_enu (r_esC (r_gt hl) r_esN) h1) .refl (λu v=>⟨rfl,rfl⟩) (by
  intro i l st1 hi sh x
  obtain⟨y,hy⟩:∃y,a[i]? =some y:=⟨_,List.getElem?_eq_getElem hi⟩
  have ed:a.getD i 0=y:=by rw[List.getD_eq_getElem?_getD,hy];rfl
  refine⟨.tup [.int i,.int y],up 1 (.int y) (up 0 (.int i) l),st1.add (.idt clsT),by rw[r_itE (x.rd h1 hk λq=>q),hy],rfl,λu v=>⟨lk_other rfl (lk_same _ _ _),lk_same _ _ _⟩,?_,.add _,λ_=>⟨_,r_gt (lk_other rfl (lk_same _ _ _)),.refl⟩⟩
  rw[ed]
  exact r_tst (r_bin (r_cls (c:=y) (r_gt (lk_same _ _ _))) r_cst (r_eqF r_eqI)) (r_tb rfl)) (λst1 x=>by rw[r_itE (x.rd h1 hk λq=>q),List.getElem?_eq_none (Nat.le_refl _)])
 refine hno ?_;refine I13 st2 r1 ?_ r3
 rw[r2,spots,zV,List.map_map];rfl
theorem bt_run{kf ks:Nat}{a sp:List Int}{s:Nat}(n1:a.length≤800)(hl:lk 1 l=some (.ref kf))(hl4:lk 4 l=some (.ref ks))(h1:rdO kf st=some (.list (zV a)))(hk:kf<st.n)(h4:rdO ks st=some (.list (zV sp)))(hs:ixL (zV sp) (-1)=some (.int s)):
 ∃st2 k,(compM (valI X.SR (slcE X.SR (gt 1) (someP (binE (binE (gt 4) (negE (cst (.int 1))) (getI X.SR)) (cst (.int 1)) (addI))) noP)) [] (st' 0) trueT (methB X.SR 2 (callE esN (f_law_class X)) (esC (gt 0) (esC (cst (.int 0)) esN)) (getB X.SR)) 1000) l st=some (.ref k,st2)∧lk k st2.H=some (.list (zV ((a.drop (s+1)).map cls)))∧Ext No st st2∧k<st2.n:=by
 have hsl:slcE X.SR (gt 1) (someP (binE (binE (gt 4) (negE (cst (.int 1))) (getI X.SR)) (cst (.int 1)) (addI))) noP l st=some (.ref st.n,st.add (.list (zV (a.drop (s+1))))):=
  r_drop (r_gt hl) (r_someP (st1:=st) (i:=((s+1:Nat):Int)) (r_bin (r_bin (r_gt hl4) (r_neg r_cst) (r_ix h4 hs)) r_cst r_add)) h1 (by omega)
 refine bc λhno=>?_;obtain⟨st2,r1,r2,r3,r4⟩:=comp_run (st:=st) (st1:=st.add (.list (zV (a.drop (s+1))))) (fr:=[]) (N:=(a.drop (s+1)).length) (g:=valI X.SR (slcE X.SR (gt 1) (someP (binE (binE (gt 4) (negE (cst (.int 1))) (getI X.SR)) (cst (.int 1)) (addI))) noP)) (ga:=st' 0) (ft:=trueT) (fe:=methB X.SR 2 (callE esN (f_law_class X)) (esC (gt 0) (esC (cst (.int 0)) esN)) (getB X.SR)) (l:=l)
  (λl=>True) (λk=>true) (λi=>.int (cls ((a.drop (s+1)).getD i 0))) (by rw[List.length_drop];omega) (r_valI hsl (rdO_H (lkH_new _ _))) (.add _) trivial (by
  intro i l st1 hi sh x
  obtain⟨y,hy⟩:∃y,(a.drop (s+1))[i]? =some y:=⟨_,List.getElem?_eq_getElem hi⟩
  have ed:(a.drop (s+1)).getD i 0=y:=by rw[List.getD_eq_getElem?_getD,hy];rfl
  refine⟨.int y,up 0 (.int y) l,st1,by rw[r_itL (x.rd (rdO_H (lkH_new _ _)) (Nat.lt_succ_self _) λq=>q),zV_get hy],rfl,trivial,r_trueT,.refl,λ_=>⟨st1.add (.idt clsT),?_,.add _⟩⟩
  rw[ed]
  exact r_cls (r_gt (lk_same _ _ _))) (λst1 x=>by rw[r_itL (x.rd (rdO_H (lkH_new _ _)) (Nat.lt_succ_self _) λq=>q),List.getElem?_eq_none (by rw[zV_len];exact Nat.le_refl _)])
 refine hno ?_;refine I24 st2 (st.n+1) r1 ?_ r3 r4
 rw[show(st.add (.list (zV (a.drop (s+1))))).n=st.n+1 from rfl]at r2
 rw[r2,List.filter_eq_self.mpr (λ_ _=>rfl),map_idx (λz=>.int (cls z)),zV,List.map_map];rfl
end
noncomputable def SR0:List (Nat×AO):=[(392,.idt [(192,.adr 393),(194,.adr 394),(7840,.adr 395),(7846,.adr 396),(64257,.adr 397)]),(393,.list [.int 65,.int 768]),(394,.list [.int 65,.int 770]),(395,.list [.int 65,.int 803]),(396,.list [.int 194,.int 768]),(397,.list [.int 102,.int 105]),
 (405,.list [.int 65,.int 768,.int 803,.int 770,.int 192,.int 7846,.int 64257,.int 837,.int 66,.int 7840,.int 194]),(406,.list [.int 65,.int 768,.int 803]),(407,.list [.int 65,.int 770,.int 803,.int 768]),(408,.list [.int 194,.int 768]),(409,.list [.int 768,.int 64257,.int 803]),(410,.list [.adr 406,.adr 407,.adr 408,.adr 409])]
theorem r_eqP{SR:List (Nat×AO)}{st:St}{a b x c:Int}:cmpEq SR (.tup [.int a,.int b]) (.tup [.int x,.int c]) st=some (decide (a=x)&&(decide (b=c)&&true)):=rfl
section
variable{X:XP}{st:St}{l:Loc}
theorem ps_run(hX:X.SR=SR0):∃st2,(compM (valI X.SR (cst (.adr 392))) [] (st' 0) (tst X.SR (binE (gt 0) (cst (.int 64257)) (eqM X.SR true))) (tupE (esC (callE (esC (binE (cst (.adr 392)) (gt 0) (getI X.SR)) esN) (tupleB X.SR)) (esC (gt 0) esN))) 1000) l st=some (.ref st.n,st2)∧lk st.n st2.H=some (.list (prs.map prV))∧Ext No st st2∧st.n<st2.n:=by
 refine bc λhno=>?_;obtain⟨SR,RD,B⟩:=X
 cases hX
 obtain⟨st2,r1,r2,r3⟩:=comp_run (st:=st) (st1:=st) (fr:=[]) (N:=5) (g:=valI SR0 (cst (.adr 392))) (item:=itD SR0 (.adr 392)) (ga:=st' 0) (ft:=tst SR0 (binE (gt 0) (cst (.int 64257)) (eqM SR0 true))) (fe:=tupE (esC (callE (esC (binE (cst (.adr 392)) (gt 0) (getI SR0)) esN) (tupleB SR0)) (esC (gt 0) esN))) (l:=l)
  (λl=>∀v,up 0 v l=[(0,v)]) (λi=>decide (i<4)) (λi=>prV (prs.getD i ((0,0),0))) (by lia) rfl .refl (λv=>rfl) (by
    intro i l st1 hi sh x
    match i,hi with
    |0,_=>exact I36 (.int 192) ([(0,.int 192)]) st1 rfl (congrArg (λz=>some (z,st1)) (sh _)) (λ_=>rfl) rfl .refl (λ_=>⟨st1,rfl,.refl⟩)
    |1,_=>exact I36 (.int 194) ([(0,.int 194)]) st1 rfl (congrArg (λz=>some (z,st1)) (sh _)) (λ_=>rfl) rfl .refl (λ_=>⟨st1,rfl,.refl⟩)
    |2,_=>exact I36 (.int 7840) ([(0,.int 7840)]) st1 rfl (congrArg (λz=>some (z,st1)) (sh _)) (λ_=>rfl) rfl .refl (λ_=>⟨st1,rfl,.refl⟩)
    |3,_=>exact I36 (.int 7846) ([(0,.int 7846)]) st1 rfl (congrArg (λz=>some (z,st1)) (sh _)) (λ_=>rfl) rfl .refl (λ_=>⟨st1,rfl,.refl⟩)
    |4,_=>exact I36 (.int 64257) ([(0,.int 64257)]) st1 rfl (congrArg (λz=>some (z,st1)) (sh _)) (λ_=>rfl) rfl .refl (λh=>by cases h)
    |i+5,h=>lia) (λst1 x=>rfl)
 refine hno ?_;exact I13 st2 r1 r2 r3
theorem mk_run{kf ks kp:Nat}{a sp:List Int}{s:Nat}{c x:Int}(n1:a.length≤800)(hl:lk 1 l=some (.ref kf))(hl3:lk 3 l=some (.int c))(hl4:lk 4 l=some (.ref ks))(hl2:lk 2 l=some (.ref kp))(h1:rdO kf st=some (.list (zV a)))(hk:kf<st.n)(h4:rdO ks st=some (.list (zV sp)))(hk4:ks<st.n)
 (hp:rdO kp st=some (.list (prs.map prV))) (hkp:kp<st.n) (hs:ixL (zV sp) (-1)=some (.int s)) (hx:a[s]? =some x):∃st2,(compM (valI X.SR (gt 2)) [(0,1),(1,3),(2,4)] (tupA 2 (consA (st' 3) (consA (st' 4) asN))) (tst X.SR (binE (gt 3) (tupE (esC (binE (gt 0) (binE (gt 2) (negE (cst (.int 1))) (getI X.SR)) (getI X.SR)) (esC (gt 1) esN))) (eqM X.SR false))) (gt 4) 1000) l st=some (.ref st.n,st2)∧lk st.n st2.H=some (.list (zV (mk x c)))∧Ext No st st2∧st.n<st2.n:=by
 have hc:carry [(0,1),(1,3),(2,4)] l=[(0,.ref kf),(1,.int c),(2,.ref ks)]:=by
  unfold carry
  simp only[List.filterMap_cons,hl,hl3,hl4,Option.map_some,List.filterMap_nil]
 have g1:ixL (zV a) (s:Int)=some (.int x):=ixL_nat (zV_get hx) (by rw[zV_len];lia)
 refine bc λhno=>?_;obtain⟨st2,r1,r2,r3⟩:=comp_run (st:=st) (st1:=st) (fr:=[(0,1),(1,3),(2,4)]) (N:=prs.length) (g:=valI X.SR (gt 2)) (ga:=tupA 2 (consA (st' 3) (consA (st' 4) asN))) (ft:=tst X.SR (binE (gt 3) (tupE (esC (binE (gt 0) (binE (gt 2) (negE (cst (.int 1))) (getI X.SR)) (getI X.SR)) (esC (gt 1) esN))) (eqM X.SR false))) (fe:=gt 4) (l:=l)
  (λl=>∀u v,up 4 v (up 3 u l)=[(0,.ref kf),(1,.int c),(2,.ref ks),(3,u),(4,v)]) (λi=>prB x c (prs.getD i ((0,0),0))) (λi=>.int (prs.getD i ((0,0),0)).2) (by decide) (r_valI (r_gt hl2) hp) .refl (λu v=>by rw[hc];rfl) (by
    intro i l st1 hi sh y
    have e:(prs.map prV)[i]? =some (prV (prs.getD i ((0,0),0))):=by rw[List.getElem?_map,List.getD_eq_getElem?_getD,List.getElem?_eq_getElem hi];rfl
    generalize prs.getD i ((0,0),0)=p at e ⊢
    refine⟨prV p,[(0,.ref kf),(1,.int c),(2,.ref ks),(3,.tup [.int p.1.1,.int p.1.2]),(4,.int p.2)],st1,by rw[r_itL (y.rd hp hkp λq=>q),e],congrArg (λz=>some (z,st1)) (sh _ _),λ_ _=>rfl,?_,.refl,λ_=>⟨st1,r_gt rfl,.refl⟩⟩
    exact r_tst (r_bin (r_gt rfl) (r_tup (r_esC (r_bin (r_gt rfl) (r_bin (r_gt rfl) (r_neg r_cst) (r_ix (y.rd h4 hk4 λq=>q) hs)) (r_ix (y.rd h1 hk λq=>q) g1)) (r_esC (r_gt rfl) r_esN)) rfl) (r_eqF r_eqP)) (r_tb rfl)) (λst1 y=>by rw[r_itL (y.rd hp hkp λq=>q),List.getElem?_eq_none (by rw[List.length_map];exact Nat.le_refl _)])
 refine hno ?_;refine I13 st2 r1 ?_ r3
 rw[r2,mk,zV,List.map_map];rfl
end
theorem r_setZ{kf s:Nat}{a:List Int}{v:Int}{st:St}(h:lk kf st.H=some (.list (zV a)))(hs:s<a.length)(hn:a.length≤100000):setI (.ref kf) (.int (s:Int)) (.int v) st=some ((),{st with H:=up kf (.list (zV (a.set s v))) st.H}):=by
 unfold setI
 dsimp only
 rw[h]
 dsimp only[setO]
 rw[decide_eq_true (Int.natCast_nonneg s),decide_eq_true (Int.ofNat_lt.mpr (by rw[zV_len];exact hs)),ble_of (by rw[zV_len];exact hn),Int.toNat_natCast,zV,zV,List.map_set]
 rfl
noncomputable def lt_body(X:XP):Loc→M (Loc×Fl):=(sq (asg (compM (enuI X.SR (esC (gt 1) esN)) [] (tupA 2 (consA (st' 0) (consA (st' 1) asN))) (tst X.SR (binE (methB X.SR 2 (callE esN (f_law_class X)) (esC (gt 1) (esC (cst (.int 0)) esN)) (getB X.SR)) (cst (.int 0)) (eqM X.SR false))) (gt 0) 1000) (st' 4)) (sq (iff' (tst X.SR (binE (gt 4) (lstE esN) (eqM X.SR true))) (sq (asgC (compM (valI X.SR (slcE X.SR (gt 1) (someP (binE (binE (gt 4) (negE (cst (.int 1))) (getI X.SR)) (cst (.int 1)) (addI))) noP)) [] (st' 0) trueT (methB X.SR 2 (callE esN (f_law_class X)) (esC (gt 0) (esC (cst (.int 0)) esN)) (getB X.SR)) 1000) 5) (sq (asgC (compM (valI X.SR (gt 2)) [(0,1),(1,3),(2,4)] (tupA 2 (consA (st' 3) (consA (st' 4) asN))) (tst X.SR (binE (gt 3) (tupE (esC (binE (gt 0) (binE (gt 2) (negE (cst (.int 1))) (getI X.SR)) (getI X.SR)) (esC (gt 1) esN))) (eqM X.SR false))) (gt 4) 1000) 6) (sq (asg (methB X.SR 2 (callE esN (f_law_class X)) (esC (gt 3) (esC (cst (.int 0)) esN)) (getB X.SR)) (st' 7)) (sq (iff' (andT (tst X.SR (binE (gt 6) (lstE esN) (eqM X.SR true))) (andT (orT (tst X.SR (binE (gt 5) (lstE esN) (eqM X.SR false))) (orT (andT (tst X.SR (binE (gt 7) (cst (.int 0)) (cmpI λa b=>decide (b<a)))) (andT (tst X.SR (binE (callE (esC (gt 5) esN) (maxB X.SR)) (gt 7) (cmpI λa b=>decide (a<b)))) trueT)) falseT)) trueT)) (sq (asg (binE (gt 6) (cst (.int 0)) (getI X.SR)) (subA (gt 1) (binE (gt 4) (negE (cst (.int 1))) (getI X.SR)))) (sq contS nextS)) nextS) nextS)))) nextS) (sq (doE (methB X.SR 1 (gt 1) (esC (gt 3) esN) appB)) nextS)))
section
variable{X:XP}{st:St}{l:Loc}
theorem cond_run{kb km s:Nat}{a:List Int}{c x:Int}(l5:lk 5 l=some (.ref kb))(l6:lk 6 l=some (.ref km))(l7:lk 7 l=some (.int (cls c)))(h5:rdO kb st=some (.list (zV ((a.drop (s+1)).map cls))))(hk5:kb<st.n)(h6:rdO km st=some (.list (zV (mk x c))))(hk6:km<st.n)(hx:a.getD s 0=x):
 ∃st2,(andT (tst X.SR (binE (gt 6) (lstE esN) (eqM X.SR true))) (andT (orT (tst X.SR (binE (gt 5) (lstE esN) (eqM X.SR false))) (orT (andT (tst X.SR (binE (gt 7) (cst (.int 0)) (cmpI λa b=>decide (b<a)))) (andT (tst X.SR (binE (callE (esC (gt 5) esN) (maxB X.SR)) (gt 7) (cmpI λa b=>decide (a<b)))) trueT)) falseT)) trueT)) l st=some (togB a s c,st2)∧Ext No st st2:=by
 have X1:Ext No st (st.add (.list (zV []))):=.add _
 have t6:∀q,(!decide (mk x c=[]))=q→tst X.SR (binE (gt 6) (lstE esN) (eqM X.SR true)) l st=some (q,st.add (.list (zV []))):=λq hq=>
  r_tst (r_bin (r_gt l6) (r_lst1 (vs:=zV []) r_esN (Nat.zero_le _)) (r_eqT (r_cmpL (X1.rd h6 hk6 λq=>q) (rdO_H (lkH_new _ _))))) (r_tb hq)
 unfold togB
 rw[hx]
 cases q6: !decide (mk x c=[]) with
 |false=>exact I12 _ (r_andT_f (t6 false q6)) X1
 |true=>
  have X2:Ext No st ((st.add (.list (zV []))).add (.list (zV []))):=X1.trans (.add _)
  have t5:∀q,decide ((a.drop (s+1)).map cls=[])=q→tst X.SR (binE (gt 5) (lstE esN) (eqM X.SR false)) l (st.add (.list (zV [])))=some (q,(st.add (.list (zV []))).add (.list (zV []))):=λq hq=>
   r_tst (r_bin (r_gt l5) (r_lst1 (vs:=zV []) r_esN (Nat.zero_le _)) (r_eqF (r_cmpL (X2.rd h5 hk5 λq=>q) (rdO_H (lkH_new (st.add _) _))))) (r_tb hq)
  rw[Bool.true_and]
  cases q5:decide ((a.drop (s+1)).map cls=[]) with
  |true=>rw[Bool.true_or];exact I12 _ (r_andT_t (t6 true q6) (r_andT_t (r_orT_t (t5 true q5)) r_trueT)) X2
  |false=>
   rw[Bool.false_or]
   have t7:∀q,decide (0<cls c)=q→tst X.SR (binE (gt 7) (cst (.int 0)) (cmpI λa b=>decide (b<a))) l ((st.add (.list (zV []))).add (.list (zV [])))=some (q,(st.add (.list (zV []))).add (.list (zV []))):=λq hq=>
    r_tst (r_bin (r_gt l7) r_cst r_cmp) (r_tb hq)
   cases q7:decide (0<cls c) with
   |false=>rw[Bool.false_and];exact I12 _ (r_andT_t (t6 true q6) (r_andT_f (r_orT_f (t5 false q5) (r_orT_f (r_andT_f (t7 false q7)) r_falseT)))) X2
   |true=>
    refine E11 (maxZ_ne (of_decide_eq_false q5)) λm hm=>?_
    rw[Bool.true_and,hm,Option.getD_some]
    have t8:∀q,decide (m<cls c)=q→tst X.SR (binE (callE (esC (gt 5) esN) (maxB X.SR)) (gt 7) (cmpI λa b=>decide (a<b))) l ((st.add (.list (zV []))).add (.list (zV [])))=some (q,(st.add (.list (zV []))).add (.list (zV []))):=λq hq=>
     r_tst (r_bin (r_call (r_esC (r_gt l5) r_esN) (r_max (X2.rd h5 hk5 λq=>q) hm)) (r_gt l7) r_cmp) (r_tb hq)
    cases q8:decide (m<cls c) with
    |true=>exact I12 _ (r_andT_t (t6 true q6) (r_andT_t (r_orT_f (t5 false q5) (r_orT_t (r_andT_t (t7 true q7) (r_andT_t (t8 true q8) r_trueT)))) r_trueT)) X2
    |false=>exact I12 _ (r_andT_t (t6 true q6) (r_andT_f (r_orT_f (t5 false q5) (r_orT_f (r_andT_t (t7 true q7) (r_andT_f (t8 false q8))) r_falseT)))) X2
theorem lt_turn{kf kp:Nat}{a:List Int}{c:Int}(n1:a.length≤700)(hl1:lk 1 l=some (.ref kf))(hl2:lk 2 l=some (.ref kp))(h1:lk kf st.H=some (.list (zV a)))(hk:kf<st.n)(hp:rdO kp st=some (.list (prs.map prV)))(hkp:kp<st.n)(hne:kp≠kf):
 ∃l2 fl st2,lt_body X (up 3 (.int c) l) st=some ((l2,fl),st2)∧(fl=.next∨fl=.cont)∧lk 1 l2=some (.ref kf)∧lk 2 l2=some (.ref kp)∧Ext (· =kf) st st2∧lk kf st2.H=some (.list (zV (tog a c))):=by
 refine E14 (sp_run (X:=X) (l:=up 3 (.int c) l) (st:=st) (by lia) (lk_other rfl hl1) (rdO_H h1) hk) λst1 b1 b2 b3 b4=>?_
 have Y1:Ext No st (st1.add (.list (zV []))):=b3.trans (.add _)
 have hl14:lk 1 (up 4 (.ref st.n) (up 3 (.int c) l))=some (.ref kf):=lk_other rfl (lk_other rfl hl1)
 have hl24:lk 2 (up 4 (.ref st.n) (up 3 (.int c) l))=some (.ref kp):=lk_other rfl (lk_other rfl hl2)
 have hl34:lk 3 (up 4 (.ref st.n) (up 3 (.int c) l))=some (.int c):=lk_other rfl (lk_same _ _ _)
 have hl44:lk 4 (up 4 (.ref st.n) (up 3 (.int c) l))=some (.ref st.n):=lk_same _ _ _
 have rs:rdO st.n (st1.add (.list (zV [])))=some (.list (zV ((spots a).map Int.ofNat))):=(Ext.add (p:=No) _).rd (rdO_H b2) b4 λq=>q
 have t4:∀q,(!decide ((spots a).map Int.ofNat=[]))=q→tst X.SR (binE (gt 4) (lstE esN) (eqM X.SR true)) (up 4 (.ref st.n) (up 3 (.int c) l)) st1=some (q,st1.add (.list (zV []))):=λq hq=>
  r_tst (r_bin (r_gt hl44) (r_lst1 (vs:=zV []) r_esN (Nat.zero_le _)) (r_eqT (r_cmpL rs (rdO_H (lkH_new _ _))))) (r_tb hq)
 have app:∀(l3:Loc) (st3:St),Ext No st st3→lk 1 l3=some (.ref kf)→lk 3 l3=some (.int c)→doE (methB X.SR 1 (gt 1) (esC (gt 3) esN) appB) l3 st3=some ((l3,.next),{st3 with H:=up kf (.list (zV (a++[c]))) st3.H})∧Ext (· =kf) st {st3 with H:=up kf (.list (zV (a++[c]))) st3.H}:=by
  intro l3 st3 x g1 g3
  have f1:=x.lk h1 hk λq=>q
  exact⟨r_doE (r_methB (r_gt g1) (rdO_H f1) rfl (r_esC (r_gt g3) r_esN) (r_appBZ f1 (by lia))),(x.wide λ_ q=>q.elim).trans (.up _ rfl)⟩
 unfold tog
 cases hs:(spots a).getLast? with
 |none=>
  have e:spots a=[]:=List.getLast?_eq_none_iff.mp hs
  refine E02 (app (up 4 (.ref st.n) (up 3 (.int c) l)) _ Y1 hl14 hl34) λq1 q2=>?_
  exact I36 _ .next _ (r_sq (r_asgN b1) (r_sq (r_iff_f (t4 false (by rw[e];rfl)) r_nextS) (r_sq q1 r_nextS))) (.inl rfl) hl14 hl24 q2 (lk_sameH _ _ _)
 |some s=>
  have hne':spots a≠[]:=by intro e;rw[e]at hs;exact nos hs
  have hmem:s∈spots a:=List.mem_of_getLast? hs
  have hsl:s<a.length:=by
   have:=(List.mem_range'_1.mp (List.mem_filter.mp hmem).1).2
   lia
  obtain⟨x,hx⟩:∃x,a[s]? =some x:=⟨_,List.getElem?_eq_getElem hsl⟩
  have ed:a.getD s 0=x:=by rw[List.getD_eq_getElem?_getD,hx];rfl
  have hix:ixL (zV ((spots a).map Int.ofNat)) (-1)=some (.int (s:Int)):=ixL_last (by rw[zV,List.getLast?_map,List.getLast?_map,hs];rfl)
  have hk1:=Nat.lt_of_lt_of_le hk Y1.le
  refine E24 (bt_run (X:=X) (l:=up 4 (.ref st.n) (up 3 (.int c) l)) (st:=st1.add (.list (zV []))) (sp:=(spots a).map Int.ofNat) (s:=s) (a:=a) (by lia) hl14 hl44 (Y1.rd (rdO_H h1) hk λq=>q) hk1 rs hix) λst2 kb c1 c2 c3 c4=>?_
  have Y2:=Y1.trans c3
  refine E14 (mk_run (X:=X) (l:=up 5 (.ref kb) (up 4 (.ref st.n) (up 3 (.int c) l))) (st:=st2) (sp:=(spots a).map Int.ofNat) (s:=s) (c:=c) (x:=x) (a:=a) (by lia) (lk_other rfl hl14) (lk_other rfl hl34) (lk_other rfl hl44) (lk_other rfl hl24) (Y2.rd (rdO_H h1) hk λq=>q) (Nat.lt_of_lt_of_le hk Y2.le) (c3.rd rs (Nat.lt_of_lt_of_le b4 (Nat.le_succ _)) λq=>q) (Nat.lt_of_lt_of_le (Nat.lt_of_lt_of_le b4 (Nat.le_succ _)) c3.le) (Y2.rd hp hkp λq=>q) (Nat.lt_of_lt_of_le hkp Y2.le) hix hx) λst3 d1 d2 d3 d4=>?_
  have Y3:=Y2.trans d3
  have Y4:Ext No st (st3.add (.idt clsT)):=Y3.trans (.add _)
  generalize hl7:up 7 (.int (cls c)) (up 6 (.ref st2.n) (up 5 (.ref kb) (up 4 (.ref st.n) (up 3 (.int c) l))))=l7
  have g1:lk 1 l7=some (.ref kf):=by rw[←hl7];exact lk_other rfl (lk_other rfl (lk_other rfl hl14))
  have g2:lk 2 l7=some (.ref kp):=by rw[←hl7];exact lk_other rfl (lk_other rfl (lk_other rfl hl24))
  have g3:lk 3 l7=some (.int c):=by rw[←hl7];exact lk_other rfl (lk_other rfl (lk_other rfl hl34))
  have g4:lk 4 l7=some (.ref st.n):=by rw[←hl7];exact lk_other rfl (lk_other rfl (lk_other rfl hl44))
  have g5:lk 5 l7=some (.ref kb):=by rw[←hl7];exact lk_other rfl (lk_other rfl (lk_same _ _ _))
  have g6:lk 6 l7=some (.ref st2.n):=by rw[←hl7];exact lk_other rfl (lk_same _ _ _)
  have g7:lk 7 l7=some (.int (cls c)):=by rw[←hl7];exact lk_same _ _ _
  have d34:Ext No st2 (st3.add (.idt clsT)):=d3.trans (.add _)
  have r6:rdO st2.n (st3.add (.idt clsT))=some (.list (zV (mk x c))):=(Ext.add (p:=No) _).rd (rdO_H d2) d4 λq=>q
  refine bc λhno=>?_;refine E12 (cond_run (X:=X) (l:=l7) (st:=st3.add (.idt clsT)) (s:=s) (a:=a) (c:=c) (x:=x) g5 g6 g7 (d34.rd (rdO_H c2) c4 λq=>q) (Nat.lt_of_lt_of_le c4 d34.le) r6 (Nat.lt_of_lt_of_le d4 (Nat.le_succ _)) ed) λst5 e1 e2=>?_
  have Y5:=Y4.trans e2
  have pre:∀ {r:Option ((Loc×Fl)×St)},(iff' ((andT (tst X.SR (binE (gt 6) (lstE esN) (eqM X.SR true))) (andT (orT (tst X.SR (binE (gt 5) (lstE esN) (eqM X.SR false))) (orT (andT (tst X.SR (binE (gt 7) (cst (.int 0)) (cmpI λa b=>decide (b<a)))) (andT (tst X.SR (binE (callE (esC (gt 5) esN) (maxB X.SR)) (gt 7) (cmpI λa b=>decide (a<b)))) trueT)) falseT)) trueT))) (sq (asg (binE (gt 6) (cst (.int 0)) (getI X.SR)) (subA (gt 1) (binE (gt 4) (negE (cst (.int 1))) (getI X.SR)))) (sq contS nextS)) nextS) l7 (st3.add (.idt clsT))=r→
   (∀l8 st8,r=some ((l8,.next),st8)→∃r2,sq (doE (methB X.SR 1 (gt 1) (esC (gt 3) esN) appB)) nextS l8 st8=r2∧lt_body X (up 3 (.int c) l) st=r2)∧(∀l8 st8,r=some ((l8,.cont),st8)→lt_body X (up 3 (.int c) l) st=r):=by
   intro r hr
   have hown:asg (methB X.SR 2 (callE esN (f_law_class X)) (esC (gt 3) (esC (cst (.int 0)) esN)) (getB X.SR)) (st' 7) (up 6 (.ref st2.n) (up 5 (.ref kb) (up 4 (.ref st.n) (up 3 (.int c) l)))) st3=some ((l7,.next),st3.add (.idt clsT)):=by
    rw[←hl7];exact r_asgN (r_cls (c:=c) (r_gt (lk_other rfl (lk_other rfl hl34))))
   have ht:=t4 true (by cases q:spots a with|nil=>exact absurd q hne'|cons u v=>rfl)
   constructor
   ·intro l8 st8 e8
    rw[e8]at hr
    exact⟨_,rfl,r_sq (r_asgN b1) (r_sq (r_iff_t ht (r_sq (r_asgC c1) (r_sq (r_asgC d1) (r_sq hown (r_sq hr r_nextS))))) rfl)⟩
   ·intro l8 st8 e8
    rw[e8]at hr
    rw[e8]
    exact r_sq (r_asgN b1) (r_sq_c (r_iff_t ht (r_sq (r_asgC c1) (r_sq (r_asgC d1) (r_sq hown (r_sq_c hr))))))
  cases qb:togB a s c with
  |false=>
   rw[qb]at e1
   refine E12 ((pre (r_iff_f e1 r_nextS)).1 _ _ rfl) λr2 q1 q2=>?_
   refine E02 (app l7 st5 Y5 g1 g3) λp1 p2=>?_
   rw[r_sq p1 r_nextS]at q1
   refine hno ?_;exact I36 l7 .next _ (q2.trans q1.symm) (.inl rfl) g1 g2 p2 (by dsimp only;rw[qb];exact lk_sameH _ _ _)
  |true=>
   rw[qb]at e1
   have hm0:mk x c≠[]:=by
    intro e
    unfold togB at qb
    rw[ed,e]at qb
    exact nft qb
   obtain⟨v,r,em⟩:∃v r,mk x c=v::r:=by
    cases q:mk x c with
    |nil=>exact absurd q hm0
    |cons v r=>exact I21 v r rfl
   have f6:rdO st2.n st5=some (.list (zV (mk x c))):=e2.rd r6 (Nat.lt_of_lt_of_le d4 (Nat.le_succ _)) λq=>q
   have f1:=Y5.lk h1 hk λq=>q
   have f4:rdO st.n st5=some (.list (zV ((spots a).map Int.ofNat))):=(c3.trans (d34.trans e2)).rd rs (Nat.lt_of_lt_of_le b4 (Nat.le_succ _)) λq=>q
   have hset:asg (binE (gt 6) (cst (.int 0)) (getI X.SR)) (subA (gt 1) (binE (gt 4) (negE (cst (.int 1))) (getI X.SR))) l7 st5=some ((l7,.next),{st5 with H:=up kf (.list (zV (a.set s v))) st5.H}):=
    r_asg (r_bin (r_gt g6) r_cst (r_ix f6 (ixL_nat (j:=0) (by rw[em];rfl) (by rw[zV_len,em];exact(by
     have:(mk x c).length≤4:=by unfold mk;rw[List.length_map];exact List.length_filter_le _ _
     rw[em]at this;lia)))))
     (bnd (r_gt g1) (bnd (r_bin (r_gt g4) (r_neg r_cst) (r_ix f4 hix)) (bnd (r_setZ f1 hsl (by lia)) rfl)))
   have q2:=(pre (r_iff_t e1 (r_sq hset (r_sq_c r_contS)))).2 _ _ rfl
   refine hno ?_;refine I36 l7 .cont _ q2 (.inr rfl) g1 g2 ((Y5.wide λ_ q=>q.elim).trans (.up _ rfl)) ?_
   dsimp only
   rw[qb,ed,em]
   exact lk_sameH _ _ _
end
theorem tog_len(a:List Int)(c:Int):(tog a c).length≤a.length+1:=by
 unfold tog
 cases (spots a).getLast? with
 |none=>simp
 |some s=>dsimp only;cases togB a s c <;> simp
theorem lt_loop{X:XP}{k0 kf kp:Nat}{ts:List Int}(e1:k0≠kf)(e2:kp≠kf):∀(ts' p:List Int) (fuel:Nat) (l:Loc) (st:St) (a:List Int),ts=p++ts'→lk 1 l=some (.ref kf)→lk 2 l=some (.ref kp)→rdO k0 st=some (.list (zV ts))→k0<st.n→rdO kp st=some (.list (prs.map prV))→kp<st.n→lk kf st.H=some (.list (zV a))→kf<st.n→a.length+ts'.length≤600→ts'.length<fuel→
 ∃l2 st2,forM' (itL X.SR (.ref k0)) (st' 3) (lt_body X) fuel p.length l st=some ((l2,.next),st2)∧lk 1 l2=some (.ref kf)∧lk kf st2.H=some (.list (zV (ts'.foldl tog a)))
 |ts',p,0,_,_,_,_,_,_,_,_,_,_,_,_,_,hf=>absurd hf (Nat.not_lt_zero _)
 | [],p,f+1,l,st,a,e,hl1,hl2,h0,hk,hp,hkp,h1,hkf,hn,hf=>⟨l,st,r_forEnd (by rw[r_itL h0,e,List.append_nil,List.getElem?_eq_none (by rw[zV_len];exact Nat.le_refl _)]),hl1,h1⟩
 |c::ts',p,f+1,l,st,a,e,hl1,hl2,h0,hk,hp,hkp,h1,hkf,hn,hf=>by
  have hit:itL X.SR (.ref k0) p.length st=some (some (.int c)):=by
   rw[r_itL h0,zV_get (x:=c) (by rw[e,List.getElem?_append_right (Nat.le_refl _),Nat.sub_self];rfl)]
  rw[List.length_cons]at hn hf
  refine bc λhno=>?_;obtain⟨l2,fl,st2,r1,rf,g1,g2,x,r2⟩:=lt_turn (X:=X) (kf:=kf) (kp:=kp) (a:=a) (c:=c) (by lia) hl1 hl2 h1 hkf hp hkp e2
  have tl:=tog_len a c
  obtain⟨l3,st3,q1,q2,q3⟩:=lt_loop e1 e2 ts' (p++[c]) f l2 st2 (tog a c) (by rw[e,List.append_assoc];rfl) g1 g2 (x.rd h0 hk e1) (Nat.lt_of_lt_of_le hk x.le) (x.rd hp hkp e2) (Nat.lt_of_lt_of_le hkp x.le) r2 (Nat.lt_of_lt_of_le hkf x.le) (by lia) (by lia)
  rw[List.length_append]at q1
  refine hno ?_;refine⟨l3,st3,?_,q2,q3⟩
  rcases rf with rfl|rfl
  ·exact r_forStep hit rfl r1 q1
  ·exact r_forStepC hit rfl r1 q1
theorem lt_run{X:XP}(hX:X.SR=SR0){st:St}{k0:Nat}{ts:List Int}(h0:rdO k0 st=some (.list (zV ts)))(hk:k0<st.n)(hn:ts.length≤500):∃st2,f_law_together X [.ref k0] st=some (.ref st.n,st2)∧lk st.n st2.H=some (.list (zV (ts.foldl tog []))):=by
 have X1:Ext No st (st.add (.list (zV []))):=.add _
 refine E14 (ps_run (X:=X) (l:=[(0,.ref k0)]) (st:=st.add (.list (zV []))) hX) λst1 a1 a2 a3 a4=>?_
 have X2:=X1.trans a3
 have f1:=a3.lk (lkH_new st (.list (zV []))) (Nat.lt_succ_self _) λq=>q
 refine E23 (lt_loop (X:=X) (k0:=k0) (kf:=st.n) (kp:=st.n+1) (ts:=ts) (Nat.ne_of_lt hk) (Nat.succ_ne_self _) ts [] 1000 [(0,.ref k0),(1,.ref st.n),(2,.ref (st.n+1))] st1 [] rfl rfl rfl (X2.rd h0 hk λq=>q) (Nat.lt_of_lt_of_le hk X2.le) (rdO_H a2) a4 f1 (Nat.lt_of_lt_of_le (Nat.lt_succ_self _) a3.le) (by simp;lia) (by lia)) λl2 st2 r1 r2 r3=>?_
 exact I12 st2 (r_fn rfl (r_sq (r_asg (r_tup (r_esC (r_lst1 (vs:=zV []) r_esN (Nat.zero_le _)) (r_esC a1 r_esN)) rfl) rfl) (r_sq (r_for (r_valI (r_gt rfl) (X2.rd h0 hk λq=>q)) r1) (r_sq_r (r_rtn (r_gt r2)))))) r3
noncomputable def menu:List Int:=[65,768,803,770,192,7846,64257,837,66,7840,194]
noncomputable def ap(w:Bool)(c:Int):List Int:=if c=192 then [65,768]else if c=194 then [65,770]else if c=7840 then [65,803]else if c=7846 then [65,770,768]else if c=64257 then(if w then [102,105]else [64257])else [c]
theorem ap_len(w:Bool)(c:Int):(ap w c).length≤3:=by
 unfold ap;repeat' (split <;> try simp)
structure WD (X:XP) (wd:List Nat) (w cm:Bool):Prop where
 k2:∃ch,(∀st,getI X.SR (.str wd) (.int 2) st=some (.str ch,st))∧∀st,eqM X.SR false (.str ch) (.str [107]) st=some (.bool w,st)
 c1:∃ch,(∀st,getI X.SR (.str wd) (.int (-1)) st=some (.str ch,st))∧∀st,eqM X.SR false (.str ch) (.str [99]) st=some (.bool cm,st)
noncomputable def lf_body(X:XP):Loc→M (Loc×Fl):=(sq (asg (binE (gt 2) (callE (esC (gt 3) (esC (binE (binE (gt 1) (cst (.int 2)) (getI X.SR)) (cst (.str [107])) (eqM X.SR false)) esN)) (pureM X.RD X.B (f_law_apart X 9))) (catM X.SR)) (st' 2)) nextS)
theorem lf_loop{X:XP}{k0:Nat}{wd:List Nat}{w cm:Bool}{ts:List Int}(W:WD X wd w cm)(hap:∀c∈menu,∀w st,pureM X.RD X.B (f_law_apart X 9) [.int c,.bool w] st=some (.ref st.n,st.add (.list (zV (ap w c)))))(hm:∀c∈ts,c∈menu):∀(ts' p:List Int) (fuel:Nat) (l:Loc) (st:St) (a:List Int) (ka:Nat),ts=p++ts'→lk 1 l=some (.str wd)→lk 2 l=some (.ref ka)→rdO k0 st=some (.list (zV ts))→k0<st.n→rdO ka st=some (.list (zV a))→ka<st.n→X.B≤ka→X.B≤st.n→a.length+3 * ts'.length≤500→ts'.length<fuel→
 ∃l2 st2 k2,forM' (itL X.SR (.ref k0)) (st' 3) (lf_body X) fuel p.length l st=some ((l2,.next),st2)∧lk 1 l2=some (.str wd)∧lk 2 l2=some (.ref k2)∧rdO k2 st2=some (.list (zV (a++ts'.flatMap (ap w))))∧k2<st2.n∧X.B≤k2∧X.B≤st2.n
 |ts',p,0,_,_,_,_,_,_,_,_,_,_,_,_,_,_,hf=>absurd hf (Nat.not_lt_zero _)
 | [],p,f+1,l,st,a,ka,e,hl1,hl2,h0,hk,h1,hka,hB,hB2,hn,hf=>⟨l,st,ka,r_forEnd (by rw[r_itL h0,e,List.append_nil,List.getElem?_eq_none (by rw[zV_len];exact Nat.le_refl _)]),hl1,hl2,by rw[h1];simp,hka,hB,hB2⟩
 |c::ts',p,f+1,l,st,a,ka,e,hl1,hl2,h0,hk,h1,hka,hB,hB2,hn,hf=>by
  have hit:itL X.SR (.ref k0) p.length st=some (some (.int c)):=by
   rw[r_itL h0,zV_get (x:=c) (by rw[e,List.getElem?_append_right (Nat.le_refl _),Nat.sub_self];rfl)]
  rw[List.length_cons]at hn hf
  refine bc λhno=>?_;refine E12 W.k2 λch w1 w2=>?_
  have X1:Ext No st (st.add (.list (zV (ap w c)))):=.add _
  have X2:Ext No st ((st.add (.list (zV (ap w c)))).add (.list (zV (a++ap w c)))):=X1.trans (.add _)
  have al:=ap_len w c
  have r1:lf_body X (up 3 (.int c) l) st=some ((up 2 (.ref (st.n+1)) (up 3 (.int c) l),.next),(st.add (.list (zV (ap w c)))).add (.list (zV (a++ap w c)))):=
   r_sq (r_asgN (r_bin (r_gt (lk_other rfl hl2)) (r_call (r_esC (r_gt (lk_same _ _ _)) (r_esC (r_bin (r_bin (r_gt (lk_other rfl hl1)) r_cst (w1 _)) r_cst (w2 _)) r_esN)) (hap c (hm c (by rw[e];simp)) w _)) (r_catZ (X1.rd h1 hka λq=>q) (rdO_H (lkH_new _ _)) (by lia)))) r_nextS
  refine E37 (lf_loop W hap hm ts' (p++[c]) f (up 2 (.ref (st.n+1)) (up 3 (.int c) l)) ((st.add (.list (zV (ap w c)))).add (.list (zV (a++ap w c)))) (a++ap w c) (st.n+1) (by rw[e,List.append_assoc];rfl) (lk_other rfl (lk_other rfl hl1)) (lk_same _ _ _) (X2.rd h0 hk λq=>q) (Nat.lt_of_lt_of_le hk X2.le) (rdO_H (lkH_new (st.add _) _)) (Nat.lt_succ_self _) (Nat.le_succ_of_le hB2) (Nat.le_trans hB2 X2.le) (by rw[List.length_append];lia) (by lia)) λl3 st3 k3 q1 q2 q3 q4 q5 q6 q7=>?_
  rw[List.length_append]at q1
  refine hno ?_;exact I37 l3 st3 k3 (r_forStep hit rfl r1 q1) q2 q3 (by rw[q4,List.flatMap_cons,List.append_assoc]) q5 q6 q7
theorem flat_len(w:Bool):∀ts:List Int,(ts.flatMap (ap w)).length≤3 * ts.length
 | []=>Nat.le_refl _
 |c::ts=>by
  have:=flat_len w ts
  have:=ap_len w c
  rw[List.flatMap_cons,List.length_append,List.length_cons];lia
noncomputable def lform(w cm:Bool)(ts:List Int):List Int:=match cm with
 |true=>((ts.flatMap (ap w)).foldl ins []).foldl tog []
 |false=>(ts.flatMap (ap w)).foldl ins []
theorem foldl_ins_len:∀(ts a:List Int),(ts.foldl ins a).length=a.length+ts.length
 | [],a=>rfl
 |c::ts,a=>by rw[List.foldl_cons,foldl_ins_len ts,ins_len,List.length_cons];lia
theorem lf_run{X:XP}(hX:X.SR=SR0){k0:Nat}{wd:List Nat}{w cm:Bool}{ts:List Int}{st:St}(W:WD X wd w cm)(hap:∀c∈menu,∀w st,pureM X.RD X.B (f_law_apart X 9) [.int c,.bool w] st=some (.ref st.n,st.add (.list (zV (ap w c)))))(hm:∀c∈ts,c∈menu)
 (h0:rdO k0 st=some (.list (zV ts))) (hk:k0<st.n) (hB:X.B≤st.n) (hn:ts.length≤100):∃st2 k,f_law_form X [.ref k0,.str wd] st=some (.ref k,st2)∧lk k st2.H=some (.list (zV (lform w cm ts)))∧X.B≤k:=by
 have X1:Ext No st (st.add (.list (zV []))):=.add _
 refine E37 (lf_loop W hap hm ts [] 1000 [(0,.ref k0),(1,.str wd),(2,.ref st.n)] (st.add (.list (zV []))) [] st.n rfl rfl rfl (X1.rd h0 hk λq=>q) (Nat.lt_succ_of_lt hk) (rdO_H (lkH_new _ _)) (Nat.lt_succ_self _) hB (Nat.le_succ_of_le hB) (by simp;lia) (by lia)) λl2 st2 k2 r1 r2 r3 r4 r5 r6 r7=>?_
 rw[List.nil_append]at r4
 have fl:=flat_len w ts
 refine E12 W.c1 λch w1 w2=>?_
 have hord:pureM X.RD X.B (f_law_ordered X) [.ref k2] st2=some (.ref st2.n,st2.add (.list (zV ((ts.flatMap (ap w)).foldl ins [])))):=by
  refine E23 (lo_run (X:=X) (st:=⟨[],[(X.B+0,.list (zV (ts.flatMap (ap w))))]++X.RD,X.B+1⟩) (k0:=X.B+0) (ts:=ts.flatMap (ap w)) (rdO_F rfl (lk_head _ _ _)) (Nat.lt_succ_self _) (by lia)) λst3 k q1 q2 q3=>?_
  exact r_pureL (canon_list r6 r4 (clos_zV _) rfl) q1 (Nat.le_trans (Nat.le_succ _) q3) q2 (clos_zV _)
 have tt:tst X.SR (binE (binE (gt 1) (negE (cst (.int 1))) (getI X.SR)) (cst (.str [99])) (eqM X.SR false)) l2 st2=some (cm,st2):=r_tst (r_bin (r_bin (r_gt r2) (r_neg r_cst) (w1 _)) r_cst (w2 _)) (r_tb rfl)
 have hfor:=r_for (r_valI (SR:=X.SR) (r_gt (i:=0) (l:=[(0,V.ref k0),(1,V.str wd),(2,V.ref st.n)]) rfl) (X1.rd h0 hk λq=>q)) r1
 cases cm with
 |false=>exact I23 _ st2.n (r_fn rfl (r_sq (r_asgN (r_lst1 (vs:=zV []) r_esN (Nat.zero_le _))) (r_sq hfor (r_sq_r (r_rtn (r_iteE_f tt (r_call (r_esC (r_gt r3) r_esN) hord))))))) (lkH_new _ _) r7
 |true=>
  have htog:pureM X.RD X.B (f_law_together X) [.ref st2.n] (st2.add (.list (zV ((ts.flatMap (ap w)).foldl ins []))))=some (.ref (st2.n+1),(st2.add (.list (zV ((ts.flatMap (ap w)).foldl ins [])))).add (.list (zV (lform w true ts)))):=by
   refine E12 (lt_run (X:=X) hX (st:=⟨[],[(X.B+0,.list (zV ((ts.flatMap (ap w)).foldl ins [])))]++X.RD,X.B+1⟩) (k0:=X.B+0) (ts:=(ts.flatMap (ap w)).foldl ins []) (rdO_F rfl (lk_head _ _ _)) (Nat.lt_succ_self _) (by rw[foldl_ins_len,List.length_nil];lia)) λst3 q1 q2=>?_
   exact r_pureL (canon_list r7 (rdO_H (lkH_new _ _)) (clos_zV _) rfl) q1 (Nat.le_succ _) q2 (clos_zV _)
  exact I23 _ (st2.n+1) (r_fn rfl (r_sq (r_asgN (r_lst1 (vs:=zV []) r_esN (Nat.zero_le _))) (r_sq hfor (r_sq_r (r_rtn (r_iteE_t tt (r_call (r_esC (r_call (r_esC (r_gt r3) r_esN) hord) r_esN) htog))))))) (lkH_new (st2.add _) _) (Nat.le_succ_of_le r7)
noncomputable def DA:List Int:=[65,66,768,770,803,837,102,105,64257]
noncomputable def FA':List Int:=[65,66,768,770,803,837,102,105,64257,192,194,7840,7846]
structure Cn (X:XP) (st:St):Prop where
 le:X.B≤st.n
 at_:∀k,k<X.B→lk k st.H=none∧lk k st.F=lk k X.RD
theorem Cn.ext{X:XP}{p:Nat→Prop}{st st':St}(h:Cn X st)(x:Ext p st st')(hp:∀k,p k→X.B≤k):Cn X st':=
 ⟨Nat.le_trans h.le x.le,λk hk=>⟨by rw[x.same k (Nat.lt_of_lt_of_le hk h.le) λq=>Nat.lt_irrefl _ (Nat.lt_of_lt_of_le hk (hp k q))];exact(h.at_ k hk).1,by rw[x.fro];exact(h.at_ k hk).2⟩⟩
theorem Cn.rd{X:XP}{st:St}(h:Cn X st){k:Nat}{o:AO}(hk:k<X.B)(e:lk k X.RD=some o):rdO k st=some o:=rdO_F (h.at_ k hk).1 ((h.at_ k hk).2.trans e)
theorem Cn.own{X:XP}{ex:List (Nat×AO)}{n:Nat}(hn:X.B≤n)(hx:∀p∈ex,X.B≤p.1):Cn X ⟨[],ex++X.RD,n⟩:=by
 refine⟨hn,λk hk=>⟨rfl,?_⟩⟩
 show lk k (ex++X.RD)= _
 rw[lk_append,lk_none_of (λp hp e=>by have:=hx p hp;lia)]
structure InstA (X:XP) (C0:Addr) (name:List Nat) (v:V):Prop where
 at_:∃k d es,v=.ref k∧k<X.B∧d<X.B∧lk k X.RD=some (.inst C0 d)∧lk d X.RD=some (.ns es)∧lkS name es=none
theorem InstA.go{X:XP}{C0:Addr}{name:List Nat}{v:V}{st:St}(h:InstA X C0 name v)(c:Cn X st):instM C0 name v st=some ((),st):=by
 refine E36 h.at_ λk d es q9246 hk hd e1 e2 e3=>?_;clear h;subst q9246
 have:rdN C0 (.ref k) st=some (d,es):=by
  unfold rdN
  dsimp only
  rw[c.rd hk e1]
  dsimp only
  rw[beq_eq,decide_eq_true rfl]
  dsimp only
  rw[c.rd hd e2]
 unfold instM
 rw[this]
 dsimp only
 rw[e3]
theorem r_meth{X:XP}{C0:Addr}{name:List Nat}{f:Loc→M V}{fs:Loc→M (List V)}{g:List V→M V}{l:Loc}{st st1 st2:St}{v:V}{vs:List V}{r:Option (V×St)}(h1:f l st=some (v,st1))(hi:InstA X C0 name v)(c:Cn X st1)(h2:fs l st1=some (vs,st2))(h3:g (v::vs) st2=r):meth C0 name f fs g l st=r:=
 bnd h1 (bnd (hi.go c) (bnd h2 h3))
structure Gr (X:XP) (cv:V) (wd:List Nat) (w cm:Bool):Prop where
 sr:X.SR=SR0
 dat:InstA X 368 [103,101,116] (.ref 0)
 d0:V.clo X.B (.ref 0)=true
 cmp:cm=true→InstA X 182 [112,97,105,114] cv
 cvc:V.clo X.B cv=true
 cvn:cm=true→isNo cv=some false
 ccc:∀c∈FA',∀st,pureM X.RD X.B (f_Data_get X) [.ref 0,.str [99,99,99],.int c] st=some (.int (cls c),st)
 exp:∀c∈menu,∀st,pureM X.RD X.B (f_form_expanded X) [.int c,.ref 0,.bool w] st=some (.ref st.n,st.add (.list (zV (ap w c))))
 pair:cm=true→∀x∈FA',∀c∈DA,∀st,pureM X.RD X.B (f_Composer_pair X) [cv,.int x,.int c] st=some (match mk x c with| []=>.none|v::_=>.int v,st)
 wide:∀st,inM X.SR false (.str wd) (.tup [.str [110,102,107,100],.str [110,102,107,99]]) st=some (.bool w,st)
 deco:∀st,inM X.SR false (.str wd) (.tup [.str [110,102,100],.str [110,102,107,100]]) st=some (.bool (!cm),st)
noncomputable def insC(x:Int):List Int→List Int
 | []=>[x]
 |q::r=>match decide (cls x<cls q) with
  |true=>x::q::r
  |false=>q::insC x r
noncomputable def srtC:List Int→List Int→List Int
 |acc,[]=>acc
 |acc,x::r=>srtC (insC x acc) r
noncomputable def pk(c:Int):V:=.tup [.int (cls c),.int c]
theorem insK_C(x:Int):∀l:List Int,insK (cls x,pk x) (l.map λc=>(cls c,pk c))=(insC x l).map λc=>(cls c,pk c)
 | []=>rfl
 |q::r=>by
  rw[List.map_cons,insK,insC]
  dsimp only
  cases decide (cls x<cls q) with
  |true=>rfl
  |false=>rw[List.map_cons,insK_C x r]
theorem srtK_C:∀(r l:List Int),srtK (l.map λc=>(cls c,pk c)) (r.map λc=>(cls c,pk c))=(srtC l r).map λc=>(cls c,pk c)
 | [],l=>rfl
 |x::r,l=>by rw[List.map_cons,srtK,srtC,insK_C,srtK_C r]
theorem keyed_C:∀r:List Int,keyed (r.map pk)=some (r.map λc=>(cls c,pk c))
 | []=>rfl
 |x::r=>by
  show(match keyed (r.map pk)with|some l=>some ((cls x,pk x)::l)|none=>none)= _
  rw[keyed_C r];rfl
theorem insC_len(x:Int):∀l:List Int,(insC x l).length=l.length+1
 | []=>rfl
 |q::r=>by rw[insC];cases decide (cls x<cls q)with|true=>rfl|false=>rw[List.length_cons,insC_len x r];rfl
theorem srtC_len:∀r l:List Int,(srtC l r).length=l.length+r.length
 | [],l=>rfl
 |x::r,l=>by rw[srtC,srtC_len r,insC_len,List.length_cons];lia
theorem clos_pk{B:Nat}:∀a:List Int,V.clos B (a.map pk)=true
 | []=>by rw[List.map_nil,V.clos]
 |x::a=>by
  have e:V.clo B (pk x)=true:=by simp[pk,V.clo,V.clos]
  rw[List.map_cons,V.clos,e];exact clos_pk a
section
variable{X:XP}{st:St}{l:Loc}
theorem fs_run{k0:Nat}{r:List Int}(h0:rdO k0 st=some (.list (r.map pk)))(hn:r.length<64):∃st2,f_form_sorted X [.ref k0] st=some (.ref (st.n+1),st2)∧lk (st.n+1) st2.H=some (.list (zV (srtC [] r))):=by
 have hs:sortKE X.SR (gt 0) [(0,.ref k0)] st=some (.ref st.n,st.add (.list ((srtC [] r).map pk))):=bnd (r_gt rfl) (by
  unfold sortK
  rw[r_lsV h0]
  dsimp only
  rw[keyed_C]
  dsimp only
  rw[show Nat.blt (r.map λc=>(cls c,pk c)).length 64=true by rw[List.length_map];exact Nat.ble_eq_true_of_le hn]
  dsimp only
  have e:=srtK_C r []
  rw[List.map_nil]at e
  rw[e,List.map_map];rfl)
 refine bc λhno=>?_;obtain⟨st2,r1,r2,r3⟩:=comp_run (st:=st) (st1:=st.add (.list ((srtC [] r).map pk))) (fr:=[]) (N:=(srtC [] r).length) (g:=valI X.SR (sortKE X.SR (gt 0))) (ga:=tupA 2 (consA (st' 0) (consA (st' 1) asN))) (ft:=trueT) (fe:=gt 1) (l:=[(0,.ref k0)])
  (λl=>True) (λ_=>true) (λi=>.int ((srtC [] r).getD i 0)) (by rw[srtC_len,List.length_nil];lia) (r_valI hs (rdO_H (lkH_new _ _))) (.add _) trivial (by
    intro i l st1 hi sh x
    obtain⟨y,hy⟩:∃y,(srtC [] r)[i]? =some y:=⟨_,List.getElem?_eq_getElem hi⟩
    have ed:(srtC [] r).getD i 0=y:=by rw[List.getD_eq_getElem?_getD,hy];rfl
    refine⟨pk y,up 1 (.int y) (up 0 (.int (cls y)) l),st1,by rw[r_itL (x.rd (rdO_H (lkH_new _ _)) (Nat.lt_succ_self _) λq=>q),List.getElem?_map,hy];rfl,rfl,trivial,r_trueT,.refl,λ_=>⟨st1,?_,.refl⟩⟩
    rw[ed];exact r_gt (lk_same _ _ _)) (λst1 x=>by rw[r_itL (x.rd (rdO_H (lkH_new _ _)) (Nat.lt_succ_self _) λq=>q),List.getElem?_eq_none (by rw[List.length_map];exact Nat.le_refl _)])
 refine hno ?_;refine I12 st2 (r_fn rfl (r_sq_r (r_rtn r1))) ?_
 rw[show(st.add (.list ((srtC [] r).map pk))).n=st.n+1 from rfl]at r2
 rw[r2,List.filter_eq_self.mpr (λ_ _=>rfl),map_idx]
theorem fs_pure{k0:Nat}{r:List Int}(h0:rdO k0 st=some (.list (r.map pk)))(hB:X.B≤k0)(hn:r.length<64):pureM X.RD X.B (f_form_sorted X) [.ref k0] st=some (.ref st.n,st.add (.list (zV (srtC [] r)))):=by
 refine E12 (fs_run (X:=X) (st:=⟨[],[(X.B+0,.list (r.map pk))]++X.RD,X.B+1⟩) (k0:=X.B+0) (r:=r) (rdO_F rfl (lk_head _ _ _)) hn) λst2 r1 r2=>?_
 exact r_pureL (canon_list hB h0 (clos_pk _) rfl) r1 (by show X.B≤X.B+1+1;lia) r2 (clos_zV _)
noncomputable def ostep(s:List Int×List Int)(c:Int):List Int×List Int:=if 0<cls c then(s.1,s.2++[c])else(s.1++srtC [] s.2++[c],[])
noncomputable def ordP(ts:List Int):List Int:=let s:=ts.foldl ostep ([],[]);s.1++srtC [] s.2
noncomputable def or_body(X:XP):Loc→M (Loc×Fl):=(sq (asg (Mine.meth 368 [103,101,116] (gt 1) (esC (cst (.str [99,99,99])) (esC (gt 4) esN)) (pureM X.RD X.B (f_Data_get X))) (st' 5)) (sq (iff' (tst X.SR (binE (gt 5) (cst (.int 0)) (cmpI λa b=>decide (b<a)))) (sq (doE (methB X.SR 1 (gt 3) (esC (tupE (esC (gt 5) (esC (gt 4) esN))) esN) appB)) nextS) (sq (doE (methB X.SR 1 (gt 2) (esC (callE (esC (gt 3) esN) (pureM X.RD X.B (f_form_sorted X))) esN) (extB X.SR))) (sq (doE (methB X.SR 1 (gt 2) (esC (gt 4) esN) appB)) (sq (asg (lstE esN) (st' 3)) nextS)))) nextS))
theorem or_turn{cv:V}{wd:List Nat}{w cm:Bool}(G:Gr X cv wd w cm){N0 kf kr:Nat}{f r:List Int}{c:Int}(hc:c∈FA')(hl1:lk 1 l=some (.ref 0))(hl2:lk 2 l=some (.ref kf))(hl3:lk 3 l=some (.ref kr))(hC:Cn X st)(hf:lk kf st.H=some (.list (zV f)))(hr:lk kr st.H=some (.list (r.map pk)))(kf1:kf<st.n)(kr1:kr<st.n)(hne:kf≠kr)(b1:N0≤kf)(b2:N0≤kr)(b3:N0≤st.n)(bB:X.B≤N0)(n1:f.length+r.length≤60):
 ∃l2 st2 kr2,or_body X (up 4 (.int c) l) st=some ((l2,.next),st2)∧lk 1 l2=some (.ref 0)∧lk 2 l2=some (.ref kf)∧lk 3 l2=some (.ref kr2)∧Ext (N0≤ ·) st st2∧lk kf st2.H=some (.list (zV (ostep (f,r) c).1))∧lk kr2 st2.H=some (.list ((ostep (f,r) c).2.map pk))∧kr2<st2.n∧kf≠kr2∧N0≤kr2:=by
 have h5:asg (meth 368 [103,101,116] (gt 1) (esC (cst (.str [99,99,99])) (esC (gt 4) esN)) (pureM X.RD X.B (f_Data_get X))) (st' 5) (up 4 (.int c) l) st=some ((up 5 (.int (cls c)) (up 4 (.int c) l),.next),st):=
  r_asgN (r_meth (r_gt (lk_other rfl hl1)) G.dat hC (r_esC r_cst (r_esC (r_gt (lk_same _ _ _)) r_esN)) (G.ccc c hc st))
 have m1:lk 1 (up 5 (.int (cls c)) (up 4 (.int c) l))=some (.ref 0):=lk_other rfl (lk_other rfl hl1)
 have m2:lk 2 (up 5 (.int (cls c)) (up 4 (.int c) l))=some (.ref kf):=lk_other rfl (lk_other rfl hl2)
 have m3:lk 3 (up 5 (.int (cls c)) (up 4 (.int c) l))=some (.ref kr):=lk_other rfl (lk_other rfl hl3)
 have m4:lk 4 (up 5 (.int (cls c)) (up 4 (.int c) l))=some (.int c):=lk_other rfl (lk_same _ _ _)
 have m5:lk 5 (up 5 (.int (cls c)) (up 4 (.int c) l))=some (.int (cls c)):=lk_same _ _ _
 generalize up 5 (.int (cls c)) (up 4 (.int c) l)=l5 at h5 m1 m2 m3 m4 m5
 have t:∀q,decide (0<cls c)=q→tst X.SR (binE (gt 5) (cst (.int 0)) (cmpI λa b=>decide (b<a))) l5 st=some (q,st):=λq hq=>r_tst (r_bin (r_gt m5) r_cst r_cmp) (r_tb hq)
 by_cases h:0<cls c
 ·have e:ostep (f,r) c=(f,r++[c]):=if_pos h
  rw[e]
  have hap:=r_app (x:=pk c) hr (by rw[List.length_map];lia)
  have ea:r.map pk++[pk c]=(r++[c]).map pk:=by rw[List.map_append];rfl
  rw[ea]at hap
  refine⟨l5,{st with H:=up kr (.list ((r++[c]).map pk)) st.H},kr,r_sq h5 (r_sq (r_iff_t (t true (decide_eq_true h)) (r_sq (r_doE (r_methB (r_gt m3) (rdO_H hr) rfl (r_esC (r_tup (r_esC (r_gt m5) (r_esC (r_gt m4) r_esN)) rfl) r_esN) hap)) r_nextS)) r_nextS),m1,m2,m3,.up _ b2,?_,lk_sameH _ _ _,kr1,hne,b2⟩
  show lk kf (up kr _ st.H)= _
  rw[lk_up,if_neg hne];exact hf
 ·have e:ostep (f,r) c=(f++srtC [] r++[c],[]):=if_neg h
  rw[e]
  have s1:=fs_pure (X:=X) (rdO_H hr) (Nat.le_trans bB b2) (by lia)
  have X1:Ext (N0≤ ·) st (st.add (.list (zV (srtC [] r)))):=.add _
  have hf1:lk kf (st.add (.list (zV (srtC [] r)))).H=some (.list (zV f)):=(lkH_old kf1).trans hf
  have sl:(srtC [] r).length=r.length:=by rw[srtC_len];simp
  have x1:=r_extZ (SR:=X.SR) (j:=st.n) hf1 (rdO_H (lkH_new st _)) (by lia)
  have x2:=r_appBZ (k:=kf) (a:=f++srtC [] r) (x:=c) (st:={(st.add (.list (zV (srtC [] r))))with H:=up kf (.list (zV (f++srtC [] r))) (st.add (.list (zV (srtC [] r)))).H}) (lk_sameH _ _ _) (by rw[List.length_append];lia)
  have Y:Ext (N0≤ ·) st {(st.add (.list (zV (srtC [] r))))with H:=up kf (.list (zV (f++srtC [] r++[c]))) (up kf (.list (zV (f++srtC [] r))) (st.add (.list (zV (srtC [] r)))).H)}:=(X1.trans (.up _ b1)).trans (.up _ b1)
  refine⟨up 3 (.ref (st.n+1)) l5,_,st.n+1,r_sq h5 (r_sq (r_iff_f (t false (decide_eq_false h)) (r_sq (r_doE (r_methB (r_gt m2) (rdO_H hf) rfl (r_esC (r_call (r_esC (r_gt m3) r_esN) s1) r_esN) x1)) (r_sq (r_doE (r_methB (r_gt m2) (rdO_H (lk_sameH _ _ _)) rfl (r_esC (r_gt m4) r_esN) x2)) (r_sq (r_asgN (r_lst1 (vs:=[]) r_esN (Nat.zero_le _))) r_nextS)))) r_nextS),lk_other rfl m1,lk_other rfl m2,lk_same _ _ _,Y.trans (.add _),?_,lkH_new _ _,Nat.lt_succ_self _,Nat.ne_of_lt (Nat.lt_succ_of_lt kf1),Nat.le_succ_of_le b3⟩
  exact(lkH_old (Nat.lt_succ_of_lt kf1)).trans (lk_sameH _ _ _)
end
theorem ostep_len(s:List Int×List Int)(c:Int):(ostep s c).1.length+(ostep s c).2.length=s.1.length+s.2.length+1:=by
 unfold ostep
 split
 ·simp only[List.length_append,List.length_cons,List.length_nil];lia
 ·simp only[List.length_append,List.length_cons,List.length_nil,srtC_len];lia
theorem fold_ostep_len:∀(ts:List Int) (s:List Int×List Int),(ts.foldl ostep s).1.length+(ts.foldl ostep s).2.length=s.1.length+s.2.length+ts.length
 | [],s=>rfl
 |c::ts,s=>by rw[List.foldl_cons,fold_ostep_len ts,ostep_len,List.length_cons];lia
theorem ordP_len(ts:List Int):(ordP ts).length=ts.length:=by
 have h:(ts.foldl ostep ([],[])).1.length+(ts.foldl ostep ([],[])).2.length=0+0+ts.length:=fold_ostep_len ts ([],[])
 have e:ordP ts=(ts.foldl ostep ([],[])).1++srtC [] (ts.foldl ostep ([],[])).2:=rfl
 rw[e,List.length_append,srtC_len,List.length_nil];lia
section
variable{X:XP}{cv:V}{wd:List Nat}{w cm:Bool}
theorem or_loop(G:Gr X cv wd w cm){N0 k0 kf:Nat}{ts:List Int}(hm:∀c∈ts,c∈FA')(hk0:k0<N0)(bB:X.B≤N0)(b1:N0≤kf):∀(ts' p:List Int) (fuel:Nat) (l:Loc) (st:St) (f r:List Int) (kr:Nat),ts=p++ts'→lk 1 l=some (.ref 0)→lk 2 l=some (.ref kf)→lk 3 l=some (.ref kr)→Cn X st→rdO k0 st=some (.list (zV ts))→
 lk kf st.H=some (.list (zV f))→lk kr st.H=some (.list (r.map pk))→kf<st.n→kr<st.n→kf≠kr→N0≤kr→f.length+r.length+ts'.length≤60→ts'.length<fuel→
 ∃l2 st2 kr2,forM' (itL X.SR (.ref k0)) (st' 4) (or_body X) fuel p.length l st=some ((l2,.next),st2)∧lk 1 l2=some (.ref 0)∧lk 2 l2=some (.ref kf)∧lk 3 l2=some (.ref kr2)∧Ext (N0≤ ·) st st2∧lk kf st2.H=some (.list (zV (ts'.foldl ostep (f,r)).1))∧lk kr2 st2.H=some (.list ((ts'.foldl ostep (f,r)).2.map pk))∧kr2<st2.n∧N0≤kr2
 |ts',p,0,_,_,_,_,_,_,_,_,_,_,_,_,_,_,_,_,_,_,hf=>absurd hf (Nat.not_lt_zero _)
 | [],p,fu+1,l,st,f,r,kr,e,hl1,hl2,hl3,hC,h0,hf,hr,kf1,kr1,hne,b2,hn,_=>⟨l,st,kr,r_forEnd (by rw[r_itL h0,e,List.append_nil,List.getElem?_eq_none (by rw[zV_len];exact Nat.le_refl _)]),hl1,hl2,hl3,.refl,hf,hr,kr1,b2⟩
 |c::ts',p,fu+1,l,st,f,r,kr,e,hl1,hl2,hl3,hC,h0,hf,hr,kf1,kr1,hne,b2,hn,hfu=>by
  have hit:itL X.SR (.ref k0) p.length st=some (some (.int c)):=by
   rw[r_itL h0,zV_get (x:=c) (by rw[e,List.getElem?_append_right (Nat.le_refl _),Nat.sub_self];rfl)]
  rw[List.length_cons]at hn hfu
  refine bc λhno=>?_;obtain⟨l2,st2,kr2,q1,q2,q3,q4,q5,q6,q7,q8,q9,q10⟩:=or_turn (l:=l) G (N0:=N0) (c:=c) (hm c (by rw[e];simp)) hl1 hl2 hl3 hC hf hr kf1 kr1 hne b1 b2 (Nat.le_trans b2 (Nat.le_of_lt kr1)) bB (by lia)
  have ol:=ostep_len (f,r) c
  dsimp only at ol
  refine E39 (or_loop G hm hk0 bB b1 ts' (p++[c]) fu l2 st2 (ostep (f,r) c).1 (ostep (f,r) c).2 kr2 (by rw[e,List.append_assoc];rfl) q2 q3 q4 (hC.ext q5 λk h=>Nat.le_trans bB h) (q5.rd h0 (Nat.lt_of_lt_of_le hk0 (Nat.le_trans b2 (Nat.le_of_lt kr1))) (Nat.not_le_of_lt hk0)) q6 q7 (Nat.lt_of_lt_of_le kf1 q5.le) q8 q9 q10 (by lia) (by lia)) λl3 st3 kr3 p1 p2 p3 p4 p5 p6 p7 p8 p9=>?_
  rw[List.length_append]at p1
  refine hno ?_;exact⟨l3,st3,kr3,r_forStep hit rfl q1 p1,p2,p3,p4,q5.trans p5,p6,p7,p8,p9⟩
theorem or_run(G:Gr X cv wd w cm){st:St}{k0:Nat}{ts:List Int}(hm:∀c∈ts,c∈FA')(hC:Cn X st)(h0:rdO k0 st=some (.list (zV ts)))(hk:k0<st.n)(hn:ts.length≤60):∃st2,f_ordered X [.ref k0,.ref 0] st=some (.ref st.n,st2)∧lk st.n st2.H=some (.list (zV (ordP ts)))∧st.n<st2.n:=by
 have X1:Ext (st.n≤ ·) st (st.add (.list (zV []))):=.add _
 have X2:Ext (st.n≤ ·) st ((st.add (.list (zV []))).add (.list (([]:List Int).map pk))):=X1.trans (.add _)
 refine E39 (or_loop G hm hk hC.le (Nat.le_refl _) ts [] 1000 [(0,.ref k0),(1,.ref 0),(3,.ref (st.n+1)),(2,.ref st.n)] ((st.add (.list (zV []))).add (.list (([]:List Int).map pk))) [] [] (st.n+1) rfl rfl rfl rfl (hC.ext X2 λk h=>Nat.le_trans hC.le h) (X2.rd h0 hk (Nat.not_le_of_lt hk)) ((lkH_old (Nat.lt_succ_self _)).trans (lkH_new _ _)) (lkH_new (st.add (.list (zV []))) _) (Nat.lt_succ_of_lt (Nat.lt_succ_self _)) (Nat.lt_succ_self _) (Nat.ne_of_lt (Nat.lt_succ_self _)) (Nat.le_succ _) (by simp;omega) (by lia)) λl2 st2 kr p1 p2 p3 p4 p5 p6 p7 p8 p9=>?_
 have fl:=fold_ostep_len ts ([],[])
 simp only[List.length_nil]at fl
 have s1:=fs_pure (X:=X) (rdO_H p7) (Nat.le_trans hC.le p9) (by lia)
 have Y:Ext (st.n≤ ·) st (st2.add (.list (zV (srtC [] (ts.foldl ostep ([],[])).2)))):=(X2.trans p5).trans (.add _)
 have lt2:st.n<st2.n:=Nat.lt_of_lt_of_le (Nat.lt_succ_of_lt (Nat.lt_succ_self _)) p5.le
 have e1:lk st.n (st2.add (.list (zV (srtC [] (ts.foldl ostep ([],[])).2)))).H=some (.list (zV (ts.foldl ostep ([],[])).1)):=(lkH_old lt2).trans p6
 have sl:(srtC [] (ts.foldl ostep ([],[])).2).length=(ts.foldl ostep ([],[])).2.length:=by rw[srtC_len];simp
 have x1:=r_extZ (SR:=X.SR) (j:=st2.n) e1 (rdO_H (lkH_new st2 _)) (by lia)
 refine I13 _ (r_fn rfl (r_sq (r_asgR (r_tup (r_esC (r_lst1 (vs:=[]) r_esN (Nat.zero_le _)) (r_esC (r_lst1 (vs:=[]) r_esN (Nat.zero_le _)) r_esN)) rfl) rfl) (r_sq (r_for (r_valI (r_gt rfl) (X2.rd h0 hk (Nat.not_le_of_lt hk))) p1) (r_sq (r_doE (r_methB (r_gt p3) (rdO_H p6) rfl (r_esC (r_call (r_esC (r_gt p4) r_esN) s1) r_esN) x1)) (r_sq_r (r_rtn (r_gt p3))))))) (lk_sameH _ _ _) ?_
 exact Nat.lt_of_lt_of_le lt2 (Nat.le_succ _)
theorem or_pure(G:Gr X cv wd w cm){st:St}{k0:Nat}{ts:List Int}(hm:∀c∈ts,c∈FA')(h0:rdO k0 st=some (.list (zV ts)))(hB:X.B≤k0)(hn:ts.length≤60):pureM X.RD X.B (f_ordered X) [.ref k0,.ref 0] st=some (.ref st.n,st.add (.list (zV (ordP ts)))):=by
 refine E13 (or_run G (st:=⟨[],[(X.B+0,.list (zV ts))]++X.RD,X.B+2⟩) (k0:=X.B+0) hm (.own (by lia) (by simp)) (rdO_F rfl (lk_head _ _ _)) (by show X.B+0<X.B+2;lia) hn) λst2 r1 r2 r3=>?_
 exact r_pureL (canon_list hB h0 (clos_zV _) (canon_clo G.d0 rfl)) r1 (by show X.B≤X.B+2;lia) r2 (clos_zV _)
noncomputable def de_body(X:XP):Loc→M (Loc×Fl):=(sq (doE (methB X.SR 1 (gt 3) (esC (callE (esC (gt 4) (esC (gt 1) (esC (gt 2) esN))) (pureM X.RD X.B (f_form_expanded X))) esN) (extB X.SR))) nextS)
theorem de_loop(G:Gr X cv wd w cm){N0 k0 kf:Nat}{ts:List Int}(hm:∀c∈ts,c∈menu)(hk0:k0<N0)(bB:X.B≤N0)(b1:N0≤kf):∀(ts' p:List Int) (fuel:Nat) (l:Loc) (st:St) (f:List Int),ts=p++ts'→lk 1 l=some (.ref 0)→lk 2 l=some (.bool w)→lk 3 l=some (.ref kf)→Cn X st→rdO k0 st=some (.list (zV ts))→
 lk kf st.H=some (.list (zV f))→kf<st.n→f.length+3 * ts'.length≤600→ts'.length<fuel→
 ∃l2 st2,forM' (itL X.SR (.ref k0)) (st' 4) (de_body X) fuel p.length l st=some ((l2,.next),st2)∧lk 1 l2=some (.ref 0)∧lk 3 l2=some (.ref kf)∧Ext (N0≤ ·) st st2∧lk kf st2.H=some (.list (zV (f++ts'.flatMap (ap w))))
 |ts',p,0,_,_,_,_,_,_,_,_,_,_,_,_,hf=>absurd hf (Nat.not_lt_zero _)
 | [],p,fu+1,l,st,f,e,hl1,hl2,hl3,hC,h0,hf,kf1,hn,_=>⟨l,st,r_forEnd (by rw[r_itL h0,e,List.append_nil,List.getElem?_eq_none (by rw[zV_len];exact Nat.le_refl _)]),hl1,hl3,.refl,by rw[hf];simp⟩
 |c::ts',p,fu+1,l,st,f,e,hl1,hl2,hl3,hC,h0,hf,kf1,hn,hfu=>by
  have hit:itL X.SR (.ref k0) p.length st=some (some (.int c)):=by
   rw[r_itL h0,zV_get (x:=c) (by rw[e,List.getElem?_append_right (Nat.le_refl _),Nat.sub_self];rfl)]
  rw[List.length_cons]at hn hfu
  have al:=ap_len w c
  have f1:lk kf (st.add (.list (zV (ap w c)))).H=some (.list (zV f)):=(lkH_old kf1).trans hf
  have x1:=r_extZ (SR:=X.SR) (j:=st.n) f1 (rdO_H (lkH_new st _)) (by lia)
  have q1:de_body X (up 4 (.int c) l) st=some ((up 4 (.int c) l,.next),_):=r_sq (r_doE (r_methB (r_gt (lk_other rfl hl3)) (rdO_H hf) rfl (r_esC (r_call (r_esC (r_gt (lk_same _ _ _)) (r_esC (r_gt (lk_other rfl hl1)) (r_esC (r_gt (lk_other rfl hl2)) r_esN))) (G.exp c (hm c (by rw[e];simp)) st)) r_esN) x1)) r_nextS
  have q5:Ext (N0≤ ·) st {(st.add (.list (zV (ap w c))))with H:=up kf (.list (zV (f++ap w c))) (st.add (.list (zV (ap w c)))).H}:=Ext.trans (.add _) (.up _ b1)
  refine E25 (de_loop G hm hk0 bB b1 ts' (p++[c]) fu (up 4 (.int c) l) {(st.add (.list (zV (ap w c))))with H:=up kf (.list (zV (f++ap w c))) (st.add (.list (zV (ap w c)))).H} (f++ap w c) (by rw[e,List.append_assoc];rfl) (lk_other rfl hl1) (lk_other rfl hl2) (lk_other rfl hl3) (hC.ext q5 λk h=>Nat.le_trans bB h) (q5.rd h0 (Nat.lt_of_lt_of_le hk0 (Nat.le_trans b1 (Nat.le_of_lt kf1))) (Nat.not_le_of_lt hk0)) (lk_sameH _ _ _) (Nat.lt_succ_of_lt kf1) (by rw[List.length_append];lia) (by lia)) λl3 st3 p1 p2 p3 p4 p5=>?_
  rw[List.length_append]at p1
  exact I25 l3 st3 (r_forStep hit rfl q1 p1) p2 p3 (q5.trans p4) (by rw[p5,List.flatMap_cons,List.append_assoc])
theorem ap_DA{w:Bool}{c:Int}(h:c∈menu):∀x∈ap w c,x∈DA:=by
 revert c
 revert w
 decide
theorem DA_FA{x:Int}(h:x∈DA):x∈FA':=by
 revert x
 decide
theorem flat_DA{w:Bool}{ts:List Int}(hm:∀c∈ts,c∈menu):∀x∈ts.flatMap (ap w),x∈DA:=by
 intro x hx
 refine E12 (List.mem_flatMap.mp hx) λc hc h=>?_
 exact ap_DA (hm c hc) x h
theorem de_run(G:Gr X cv wd w cm){st:St}{k0:Nat}{ts:List Int}(hm:∀c∈ts,c∈menu)(hC:Cn X st)(h0:rdO k0 st=some (.list (zV ts)))(hk:k0<st.n)(hn:ts.length≤20):∃st2 k,f_decomposed X [.ref k0,.ref 0,.bool w] st=some (.ref k,st2)∧lk k st2.H=some (.list (zV (ordP (ts.flatMap (ap w)))))∧X.B≤k:=by
 have X1:Ext (st.n≤ ·) st (st.add (.list (zV []))):=.add _
 refine E25 (de_loop G hm hk hC.le (Nat.le_refl _) ts [] 1000 [(0,.ref k0),(1,.ref 0),(2,.bool w),(3,.ref st.n)] (st.add (.list (zV []))) [] rfl rfl rfl rfl (hC.ext X1 λk h=>Nat.le_trans hC.le h) (X1.rd h0 hk (Nat.not_le_of_lt hk)) (lkH_new _ _) (Nat.lt_succ_self _) (by simp;lia) (by lia)) λl2 st2 p1 p2 p3 p4 p5=>?_
 rw[List.nil_append]at p5
 have fl:=flat_len w ts
 have s1:=or_pure G (st:=st2) (k0:=st.n) (λc h=>DA_FA (flat_DA hm c h)) (rdO_H p5) hC.le (by lia)
 exact I23 _ st2.n (r_fn rfl (r_sq (r_asgN (r_lst1 (vs:=[]) r_esN (Nat.zero_le _))) (r_sq (r_for (r_valI (r_gt rfl) (X1.rd h0 hk (Nat.not_le_of_lt hk))) p1) (r_sq_r (r_rtn (r_call (r_esC (r_gt p3) (r_esC (r_gt p2) r_esN)) s1)))))) (lkH_new _ _) (Nat.le_trans hC.le (Nat.le_trans X1.le p4.le))
theorem de_pure(G:Gr X cv wd w cm){st:St}{k0:Nat}{ts:List Int}(hm:∀c∈ts,c∈menu)(h0:rdO k0 st=some (.list (zV ts)))(hB:X.B≤k0)(hn:ts.length≤20):pureM X.RD X.B (f_decomposed X) [.ref k0,.ref 0,.bool w] st=some (.ref st.n,st.add (.list (zV (ordP (ts.flatMap (ap w)))))):=by
 refine E23 (de_run G (st:=⟨[],[(X.B+0,.list (zV ts))]++X.RD,X.B+3⟩) (k0:=X.B+0) hm (.own (by lia) (by simp)) (rdO_F rfl (lk_head _ _ _)) (by show X.B+0<X.B+3;lia) hn) λst2 k r1 r2 r3=>?_
 exact r_pureL (canon_list hB h0 (clos_zV _) (canon_clo G.d0 (canon_clo rfl rfl))) r1 r3 r2 (clos_zV _)
end
noncomputable abbrev CS:=List Int×Option Nat×Int
noncomputable def sI:Option Nat→Int
 |none=> -1
 |some n=>(n:Int)
noncomputable def cB(q:CS)(c:Int):Bool:=match q.2.1 with
 |none=>false
 |some n=>decide (n+1=q.1.length)||decide (q.2.2<cls c)
noncomputable def cpush(q:CS)(c:Int):CS:=if cls c=0 then(q.1++[c],some q.1.length,-1)else(q.1++[c],q.2.1,if q.2.2<cls c then cls c else q.2.2)
noncomputable def cstep(q:CS)(c:Int):CS:=match cB q c with
 |false=>cpush q c
 |true=>match q.2.1 with
  |none=>cpush q c
  |some n=>match mk (q.1.getD n 0) c with
   | []=>cpush q c
   |v::_=>(q.1.set n v,some n,q.2.2)
structure CSok (q:CS):Prop where
 fa:∀x∈q.1,x∈FA'
 lt:∀n,q.2.1=some n→n<q.1.length
theorem mk_FA{x c v:Int}(h:v∈mk x c):v∈FA':=by
 unfold mk at h
 refine E12 (List.mem_map.mp h) λi hi e=>?_
 have hi':=(List.mem_filter.mp hi).1
 rw[←e]
 revert hi'
 clear e hi h
 revert i
 decide
theorem CSok.push{q:CS}(h:CSok q){c:Int}(hc:c∈DA):CSok (cpush q c):=by
 unfold cpush
 split
 ·refine⟨λx hx=>?_,λn hn=>?_⟩
  ·rcases List.mem_append.mp hx with hx|hx
   ·exact h.fa x hx
   ·rw[List.mem_singleton]at hx;subst hx;exact DA_FA hc
  ·obtain rfl:=sin hn;dsimp only;rw[List.length_append];exact Nat.lt_succ_self _
 ·refine⟨λx hx=>?_,λn hn=>?_⟩
  ·rcases List.mem_append.mp hx with hx|hx
   ·exact h.fa x hx
   ·rw[List.mem_singleton]at hx;subst hx;exact DA_FA hc
  ·have:=h.lt n hn;dsimp only;rw[List.length_append];lia
theorem CSok.step{q:CS}(h:CSok q){c:Int}(hc:c∈DA):CSok (cstep q c):=by
 unfold cstep
 split
 ·exact h.push hc
 ·split
  ·exact h.push hc
  ·rename_i n hn
   split
   ·exact h.push hc
   ·rename_i v r hv
    refine⟨λx hx=>?_,λk hk=>?_⟩
    ·rcases List.mem_or_eq_of_mem_set hx with hx|hx
     ·exact h.fa x hx
     ·rw[hx];exact mk_FA (x:=q.1.getD n 0) (c:=c) (by rw[hv];exact List.mem_cons_self ..)
    ·obtain rfl:=sin hk;dsimp only;rw[List.length_set];exact h.lt n hn
theorem cstep_len(q:CS)(c:Int):(cstep q c).1.length≤q.1.length+1:=by
 have p:(cpush q c).1.length≤q.1.length+1:=by unfold cpush;split <;> simp
 unfold cstep
 split
 ·exact p
 ·split
  ·exact p
  ·split
   ·exact p
   ·dsimp only;rw[List.length_set];lia
noncomputable def co_body(X:XP):Loc→M (Loc×Fl):=(sq (asg (Mine.meth 368 [103,101,116] (gt 1) (esC (cst (.str [99,99,99])) (esC (gt 6) esN)) (pureM X.RD X.B (f_Data_get X))) (st' 7)) (sq (iff' (andT (tst X.SR (binE (gt 4) (cst (.int 0)) (cmpI λa b=>decide (b≤a)))) (andT (orT (tst X.SR (binE (gt 4) (binE (callE (esC (gt 3) esN) (lenB X.SR)) (cst (.int 1)) (subI)) (eqM X.SR false))) (orT (tst X.SR (binE (gt 5) (gt 7) (cmpI λa b=>decide (a<b)))) falseT)) trueT)) (sq (asg (Mine.meth 182 [112,97,105,114] (gt 2) (esC (binE (gt 3) (gt 4) (getI X.SR)) (esC (gt 6) esN)) (pureM X.RD X.B (f_Composer_pair X))) (st' 8)) (sq (iff' (tst X.SR (binE (gt 8) (cst .none) (isNone true))) (sq (asg (gt 8) (subA (gt 3) (gt 4))) (sq contS nextS)) nextS) nextS)) nextS) (sq (iff' (tst X.SR (binE (gt 7) (cst (.int 0)) (eqM X.SR false))) (sq (asgR (tupE (esC (callE (esC (gt 3) esN) (lenB X.SR)) (esC (negE (cst (.int 1))) esN))) [4,5]) nextS) (sq (asg (callE (esC (gt 5) (esC (gt 7) esN)) (maxB X.SR)) (st' 5)) nextS)) (sq (doE (methB X.SR 1 (gt 3) (esC (gt 6) esN) appB)) nextS))))
noncomputable def co_cond(X:XP):Loc→M Bool:=(andT (tst X.SR (binE (gt 4) (cst (.int 0)) (cmpI λa b=>decide (b≤a)))) (andT (orT (tst X.SR (binE (gt 4) (binE (callE (esC (gt 3) esN) (lenB X.SR)) (cst (.int 1)) (subI)) (eqM X.SR false))) (orT (tst X.SR (binE (gt 5) (gt 7) (cmpI λa b=>decide (a<b)))) falseT)) trueT))
theorem CSok.nil:CSok (([],none,-1):CS):=⟨λx hx=>(by cases hx),λn hn=>(by cases hn)⟩
theorem r_isNo{neg b:Bool}{v:V}{st:St}(h:isNo v=some b):isNone neg v .none st=some (.bool (Bool.xor neg b),st):=by
 unfold isNone
 dsimp only
 rw[h]
structure CoL (l:Loc) (cv:V) (kf:Nat) (s:Option Nat) (m:Int):Prop where
 g1:lk 1 l=some (.ref 0)
 g2:lk 2 l=some cv
 g3:lk 3 l=some (.ref kf)
 g4:lk 4 l=some (.int (sI s))
 g5:lk 5 l=some (.int m)
section
variable{X:XP}{cv:V}{wd:List Nat}{w cm:Bool}{l:Loc}{st:St}
theorem cc_run{kf:Nat}{q:CS}{c:Int}(L:CoL l cv kf q.2.1 q.2.2)(h7:lk 7 l=some (.int (cls c)))(hf:lk kf st.H=some (.list (zV q.1)))(n1:q.1.length≤500):co_cond X l st=some (cB q c,st):=by
 obtain⟨f,s,m⟩:=q
 dsimp only at L hf n1
 have A:∀b,decide ((0:Int)≤sI s)=b→tst X.SR (binE (gt 4) (cst (.int 0)) (cmpI λa b=>decide (b≤a))) l st=some (b,st):=λb hb=>r_tst (r_bin (r_gt L.g4) r_cst r_cmp) (r_tb hb)
 have len:callE (esC (gt 3) esN) (lenB X.SR) l st=some (.int (zV f).length,st):=r_call (r_esC (r_gt L.g3) r_esN) (r_len (rdO_H hf) (ble_of (by rw[zV_len];lia)))
 rw[zV_len]at len
 cases s with
 |none=>exact r_andT_f (A false rfl)
 |some n=>
  have B:∀b,decide ((n:Int)=(f.length:Int)-1)=b→tst X.SR (binE (gt 4) (binE (callE (esC (gt 3) esN) (lenB X.SR)) (cst (.int 1)) (subI)) (eqM X.SR false)) l st=some (b,st):=λb hb=>r_tst (r_bin (r_gt L.g4) (r_bin len r_cst r_sub) (r_eqF r_eqI)) (r_tb hb)
  have D:∀b,decide (m<cls c)=b→tst X.SR (binE (gt 5) (gt 7) (cmpI λa b=>decide (a<b))) l st=some (b,st):=λb hb=>r_tst (r_bin (r_gt L.g5) (r_gt h7) r_cmp) (r_tb hb)
  refine r_andT_t (A true (decide_eq_true (Int.natCast_nonneg n))) ?_
  by_cases e:n+1=f.length
  ·have:cB (f,some n,m) c=true:=by show(decide (n+1=f.length)||decide (m<cls c))=true;rw[decide_eq_true e];rfl
   rw[this]
   exact r_andT_t (r_orT_t (B true (decide_eq_true (by lia)))) r_trueT
  ·have:cB (f,some n,m) c=decide (m<cls c):=by show(decide (n+1=f.length)||decide (m<cls c))= _;rw[decide_eq_false e];rfl
   rw[this]
   have B':=B false (decide_eq_false (by lia))
   by_cases e2:m<cls c
   ·rw[decide_eq_true e2]
    exact r_andT_t (r_orT_f B' (r_orT_t (D true (decide_eq_true e2)))) r_trueT
   ·rw[decide_eq_false e2]
    exact r_andT_f (r_orT_f B' (r_orT_f (D false (decide_eq_false e2)) r_falseT))
noncomputable def co_push(X:XP):Loc→M (Loc×Fl):=(sq (iff' (tst X.SR (binE (gt 7) (cst (.int 0)) (eqM X.SR false))) (sq (asgR (tupE (esC (callE (esC (gt 3) esN) (lenB X.SR)) (esC (negE (cst (.int 1))) esN))) [4,5]) nextS) (sq (asg (callE (esC (gt 5) (esC (gt 7) esN)) (maxB X.SR)) (st' 5)) nextS)) (sq (doE (methB X.SR 1 (gt 3) (esC (gt 6) esN) appB)) nextS))
theorem cp_push{kf:Nat}{q:CS}{c:Int}(L:CoL l cv kf q.2.1 q.2.2)(h6:lk 6 l=some (.int c))(h7:lk 7 l=some (.int (cls c)))(hf:lk kf st.H=some (.list (zV q.1)))(n1:q.1.length≤500):
 ∃l2,co_push X l st=some ((l2,.next),{st with H:=Mine.up kf (.list (zV (cpush q c).1)) st.H})∧CoL l2 cv kf (cpush q c).2.1 (cpush q c).2.2:=by
 obtain⟨f,s,m⟩:=q
 dsimp only at L hf n1
 have T:∀b,decide (cls c=0)=b→tst X.SR (binE (gt 7) (cst (.int 0)) (eqM X.SR false)) l st=some (b,st):=λb hb=>r_tst (r_bin (r_gt h7) r_cst (r_eqF r_eqI)) (r_tb hb)
 have len:callE (esC (gt 3) esN) (lenB X.SR) l st=some (.int (zV f).length,st):=r_call (r_esC (r_gt L.g3) r_esN) (r_len (rdO_H hf) (ble_of (by rw[zV_len];lia)))
 rw[zV_len]at len
 have ap:=r_appBZ (x:=c) hf (by lia)
 by_cases e:cls c=0
 ·have:cpush (f,s,m) c=(f++[c],some f.length,-1):=if_pos e
  rw[this]
  refine I12 (up 4 (.int f.length) (up 5 (.int (-1)) l)) (r_sq (r_iff_t (T true (decide_eq_true e)) (r_sq (r_asgR (r_tup (r_esC len (r_esC (r_neg r_cst) r_esN)) rfl) rfl) r_nextS)) (r_sq (r_doE (r_methB (r_gt (lk_other rfl (lk_other rfl L.g3))) (rdO_H hf) rfl (r_esC (r_gt (lk_other rfl (lk_other rfl h6))) r_esN) ap)) r_nextS)) ?_
  exact⟨lk_other rfl (lk_other rfl L.g1),lk_other rfl (lk_other rfl L.g2),lk_other rfl (lk_other rfl L.g3),lk_same _ _ _,lk_other rfl (lk_same _ _ _)⟩
 ·have:cpush (f,s,m) c=(f++[c],s,if m<cls c then cls c else m):=if_neg e
  rw[this]
  refine I12 (up 5 (.int (if m<cls c then cls c else m)) l) (r_sq (r_iff_f (T false (decide_eq_false e)) (r_sq (r_asgN (r_call (r_esC (r_gt L.g5) (r_esC (r_gt h7) r_esN)) rfl)) r_nextS)) (r_sq (r_doE (r_methB (r_gt (lk_other rfl L.g3)) (rdO_H hf) rfl (r_esC (r_gt (lk_other rfl h6)) r_esN) ap)) r_nextS)) ?_
  exact⟨lk_other rfl L.g1,lk_other rfl L.g2,lk_other rfl L.g3,lk_other rfl L.g4,lk_same _ _ _⟩
theorem co_turn(G:Gr X cv wd w true){N0 kf:Nat}{q:CS}{c:Int}(hc:c∈DA)(ok:CSok q)(L:CoL l cv kf q.2.1 q.2.2)(hC:Cn X st)(hf:lk kf st.H=some (.list (zV q.1)))(b1:N0≤kf)(bB:X.B≤N0)(n1:q.1.length≤500):
 ∃l2 fl st2,co_body X (up 6 (.int c) l) st=some ((l2,fl),st2)∧(fl=.next∨fl=.cont)∧CoL l2 cv kf (cstep q c).2.1 (cstep q c).2.2∧Ext (N0≤ ·) st st2∧lk kf st2.H=some (.list (zV (cstep q c).1)):=by
 have h7:asg (meth 368 [103,101,116] (gt 1) (esC (cst (.str [99,99,99])) (esC (gt 6) esN)) (pureM X.RD X.B (f_Data_get X))) (st' 7) (up 6 (.int c) l) st=some ((up 7 (.int (cls c)) (up 6 (.int c) l),.next),st):=
  r_asgN (r_meth (r_gt (lk_other rfl L.g1)) G.dat hC (r_esC r_cst (r_esC (r_gt (lk_same _ _ _)) r_esN)) (G.ccc c (DA_FA hc) st))
 have L7:CoL (up 7 (.int (cls c)) (up 6 (.int c) l)) cv kf q.2.1 q.2.2:=⟨lk_other rfl (lk_other rfl L.g1),lk_other rfl (lk_other rfl L.g2),lk_other rfl (lk_other rfl L.g3),lk_other rfl (lk_other rfl L.g4),lk_other rfl (lk_other rfl L.g5)⟩
 have m6:lk 6 (up 7 (.int (cls c)) (up 6 (.int c) l))=some (.int c):=lk_other rfl (lk_same _ _ _)
 have m7:lk 7 (up 7 (.int (cls c)) (up 6 (.int c) l))=some (.int (cls c)):=lk_same _ _ _
 generalize up 7 (.int (cls c)) (up 6 (.int c) l)=l7 at h7 L7 m6 m7
 have cc:=cc_run (X:=X) (c:=c) L7 m7 hf n1
 refine bc λhno=>?_;cases eB:cB q c with
 |false=>
  have e:cstep q c=cpush q c:=by unfold cstep;rw[eB]
  refine hno ?_;rw[e]
  rw[eB]at cc
  refine E12 (cp_push (X:=X) L7 m6 m7 hf n1) λl2 r1 r2=>?_
  exact I35 l2 .next _ (r_sq h7 (r_sq (r_iff_f cc r_nextS) r1)) (.inl rfl) r2 (.up _ b1) (lk_sameH _ _ _)
 |true=>
  rw[eB]at cc
  obtain⟨n,hn⟩:∃n,q.2.1=some n:=by
   cases e:q.2.1 with
   |none=>unfold cB at eB;rw[e]at eB;exact nft eB
   |some n=>exact I11 n rfl
  have hlt:=ok.lt n hn
  clear L bB;obtain⟨x,hx⟩:∃x,q.1[n]? =some x:=⟨_,List.getElem?_eq_getElem hlt⟩
  have ed:q.1.getD n 0=x:=by rw[List.getD_eq_getElem?_getD,hx];rfl
  have xm:x∈FA':=ok.fa x (List.mem_of_getElem? hx)
  have g4:lk 4 l7=some (.int (n:Int)):=by have:=L7.g4;rw[hn]at this;exact this
  have hp:asg (meth 182 [112,97,105,114] (gt 2) (esC (binE (gt 3) (gt 4) (getI X.SR)) (esC (gt 6) esN)) (pureM X.RD X.B (f_Composer_pair X))) (st' 8) l7 st=some ((up 8 (match mk x c with| []=>.none|v::_=>.int v) l7,.next),st):=
   r_asgN (r_meth (r_gt L7.g2) (G.cmp rfl) hC (r_esC (r_bin (r_gt L7.g3) (r_gt g4) (r_ix (rdO_H hf) (ixL_nat (zV_get hx) (by rw[zV_len];lia)))) (r_esC (r_gt m6) r_esN)) (G.pair rfl x xm c hc st))
  cases em:mk x c with
  |nil=>
   rw[em]at hp
   dsimp only at hp
   have e:cstep q c=cpush q c:=by unfold cstep;rw[eB,hn];dsimp only;rw[ed,em]
   refine hno ?_;rw[e]
   have L8:CoL (up 8 .none l7) cv kf q.2.1 q.2.2:=⟨lk_other rfl L7.g1,lk_other rfl L7.g2,lk_other rfl L7.g3,lk_other rfl L7.g4,lk_other rfl L7.g5⟩
   refine E12 (cp_push (X:=X) L8 (lk_other rfl m6) (lk_other rfl m7) hf n1) λl2 r1 r2=>?_
   exact I35 l2 .next _ (r_sq h7 (r_sq (r_iff_t cc (r_sq hp (r_sq (r_iff_f (r_tst (r_bin (r_gt (lk_same _ _ _)) r_cst rfl) rfl) r_nextS) r_nextS))) r1)) (.inl rfl) r2 (.up _ b1) (lk_sameH _ _ _)
  |cons v r=>
   rw[em]at hp
   dsimp only at hp
   have e:cstep q c=(q.1.set n v,some n,q.2.2):=by unfold cstep;rw[eB,hn];dsimp only;rw[ed,em]
   refine hno ?_;rw[e]
   have L8:CoL (up 8 (.int v) l7) cv kf q.2.1 q.2.2:=⟨lk_other rfl L7.g1,lk_other rfl L7.g2,lk_other rfl L7.g3,lk_other rfl L7.g4,lk_other rfl L7.g5⟩
   rw[hn]at L8
   have hset:asg (gt 8) (subA (gt 3) (gt 4)) (up 8 (.int v) l7) st=some ((up 8 (.int v) l7,.next),{st with H:=up kf (.list (zV (q.1.set n v))) st.H}):=
    r_asg (r_gt (lk_same _ _ _)) (bnd (r_gt L8.g3) (bnd (r_gt L8.g4) (bnd (r_setZ hf hlt (by lia)) rfl)))
   exact I35 _ .cont _ (r_sq h7 (r_sq_c (r_iff_t cc (r_sq hp (r_sq_c (r_iff_t (r_tst (r_bin (r_gt (lk_same _ _ _)) r_cst rfl) rfl) (r_sq hset (r_sq_c r_contS)))))))) (.inr rfl) L8 (.up _ b1) (lk_sameH _ _ _)
theorem co_loop(G:Gr X cv wd w true){N0 k0 kf:Nat}{ts:List Int}(hm:∀c∈ts,c∈DA)(hk0:k0<N0)(bB:X.B≤N0)(b1:N0≤kf):∀(ts' p:List Int) (fuel:Nat) (l:Loc) (st:St) (q:CS),ts=p++ts'→CoL l cv kf q.2.1 q.2.2→CSok q→Cn X st→rdO k0 st=some (.list (zV ts))→
 lk kf st.H=some (.list (zV q.1))→kf<st.n→q.1.length+ts'.length≤400→ts'.length<fuel→
 ∃l2 st2,forM' (itL X.SR (.ref k0)) (st' 6) (co_body X) fuel p.length l st=some ((l2,.next),st2)∧lk 3 l2=some (.ref kf)∧lk kf st2.H=some (.list (zV (ts'.foldl cstep q).1))
 |ts',p,0,_,_,_,_,_,_,_,_,_,_,_,hf=>absurd hf (Nat.not_lt_zero _)
 | [],p,fu+1,l,st,q,e,L,ok,hC,h0,hf,kf1,hn,_=>⟨l,st,r_forEnd (by rw[r_itL h0,e,List.append_nil,List.getElem?_eq_none (by rw[zV_len];exact Nat.le_refl _)]),L.g3,hf⟩
 |c::ts',p,fu+1,l,st,q,e,L,ok,hC,h0,hf,kf1,hn,hfu=>by
  have hit:itL X.SR (.ref k0) p.length st=some (some (.int c)):=by
   rw[r_itL h0,zV_get (x:=c) (by rw[e,List.getElem?_append_right (Nat.le_refl _),Nat.sub_self];rfl)]
  rw[List.length_cons]at hn hfu
  have hcm:c∈DA:=hm c (by rw[e];simp)
  obtain⟨l2,fl,st2,r1,rf,L2,x,r2⟩:=co_turn (l:=l) G (N0:=N0) hcm ok L hC hf b1 bB (by lia)
  have cl:=cstep_len q c
  obtain⟨l3,st3,p1,p2,p3⟩:=co_loop G hm hk0 bB b1 ts' (p++[c]) fu l2 st2 (cstep q c) (by rw[e,List.append_assoc];rfl) L2 (ok.step hcm) (hC.ext x λk h=>Nat.le_trans bB h) (x.rd h0 (Nat.lt_of_lt_of_le hk0 (Nat.le_trans b1 (Nat.le_of_lt kf1))) (Nat.not_le_of_lt hk0)) r2 (Nat.lt_of_lt_of_le kf1 x.le) (by lia) (by lia)
  rw[List.length_append]at p1
  refine⟨l3,st3,?_,p2,p3⟩
  rcases rf with rfl|rfl
  ·exact r_forStep hit rfl r1 p1
  ·exact r_forStepC hit rfl r1 p1
noncomputable def comP(ts:List Int):List Int:=(ts.foldl cstep ([],none,-1)).1
theorem co_run(G:Gr X cv wd w true){st:St}{k0:Nat}{ts:List Int}(hm:∀c∈ts,c∈DA)(hC:Cn X st)(h0:rdO k0 st=some (.list (zV ts)))(hk:k0<st.n)(hn:ts.length≤60):∃st2,f_composed X [.ref k0,.ref 0,cv] st=some (.ref st.n,st2)∧lk st.n st2.H=some (.list (zV (comP ts))):=by
 have X1:Ext (st.n≤ ·) st (st.add (.list (zV []))):=.add _
 refine E23 (co_loop G hm hk hC.le (Nat.le_refl _) ts [] 1000 [(0,.ref k0),(1,.ref 0),(2,cv),(5,.int (-1)),(4,.int (-1)),(3,.ref st.n)] (st.add (.list (zV []))) ([],none,-1) rfl ⟨rfl,rfl,rfl,rfl,rfl⟩ .nil (hC.ext X1 λk h=>Nat.le_trans hC.le h) (X1.rd h0 hk (Nat.not_le_of_lt hk)) (lkH_new _ _) (Nat.lt_succ_self _) (by simp;lia) (by lia)) λl2 st2 p1 p2 p3=>?_
 have hno:(binE (gt 2) (cst .none) (isNone false)) [(0,V.ref k0),(1,.ref 0),(2,cv)] st=some (.bool false,st):=r_bin (r_gt rfl) r_cst (r_isNo (G.cvn rfl))
 exact I12 st2 (r_fn rfl (r_sq (r_asgN (r_iteE_f (r_tst hno rfl) (r_gt rfl))) (r_sq (r_asgR (r_tup (r_esC (r_lst1 (vs:=[]) r_esN (Nat.zero_le _)) (r_esC (r_neg r_cst) (r_esC (r_neg r_cst) r_esN))) rfl) rfl) (r_sq (r_for (r_valI (r_gt rfl) (X1.rd h0 hk (Nat.not_le_of_lt hk))) p1) (r_sq_r (r_rtn (r_gt p2))))))) p3
theorem co_pure(G:Gr X cv wd w true){st:St}{k0:Nat}{ts:List Int}(hm:∀c∈ts,c∈DA)(h0:rdO k0 st=some (.list (zV ts)))(hB:X.B≤k0)(hn:ts.length≤60):pureM X.RD X.B (f_composed X) [.ref k0,.ref 0,cv] st=some (.ref st.n,st.add (.list (zV (comP ts)))):=by
 refine E12 (co_run G (st:=⟨[],[(X.B+0,.list (zV ts))]++X.RD,X.B+3⟩) (k0:=X.B+0) hm (.own (by lia) (by simp)) (rdO_F rfl (lk_head _ _ _)) (by show X.B+0<X.B+3;lia) hn) λst2 r1 r2=>?_
 exact r_pureL (canon_list hB h0 (clos_zV _) (canon_clo G.d0 (canon_clo G.cvc rfl))) r1 (by show X.B≤X.B+3;lia) r2 (clos_zV _)
end
theorem fold_cstep_len:∀(ts:List Int) (q:CS),(ts.foldl cstep q).1.length≤q.1.length+ts.length
 | [],q=>Nat.le_refl _
 |c::ts,q=>by
  have h1:=fold_cstep_len ts (cstep q c)
  have h2:=cstep_len q c
  rw[List.foldl_cons,List.length_cons];lia
noncomputable def pform(w cm:Bool)(ts:List Int):List Int:=match cm with
 |true=>comP (ordP (ts.flatMap (ap w)))
 |false=>ordP (ts.flatMap (ap w))
theorem pform_len(w cm:Bool)(ts:List Int):(pform w cm ts).length≤3 * ts.length:=by
 have h1:=flat_len w ts
 have h2:=ordP_len (ts.flatMap (ap w))
 cases cm with
 |false=>show(ordP (ts.flatMap (ap w))).length≤_;lia
 |true=>
  have h3:=fold_cstep_len (ordP (ts.flatMap (ap w))) ([],none,-1)
  show(comP (ordP (ts.flatMap (ap w)))).length≤_
  unfold comP
  simp only[List.length_nil]at h3
  lia
theorem insC_mem{x y:Int}:∀ {l:List Int},y∈insC x l→y=x∨y∈l
 | [],h=>by rw[insC]at h;exact .inl (List.mem_singleton.mp h)
 |q::r,h=>by
  rw[insC]at h
  cases e:decide (cls x<cls q) with
  |true=>
   rw[e]at h
   rcases List.mem_cons.mp h with h|h
   ·exact .inl h
   ·exact .inr h
  |false=>
   rw[e]at h
   rcases List.mem_cons.mp h with h|h
   ·exact .inr (h▸List.mem_cons_self ..)
   ·rcases insC_mem h with h|h
    ·exact .inl h
    ·exact .inr (List.mem_cons_of_mem _ h)
theorem srtC_mem{y:Int}:∀ {r l:List Int},y∈srtC l r→y∈l∨y∈r
 | [],l,h=>.inl h
 |x::r,l,h=>by
  rw[srtC]at h
  rcases srtC_mem h with h|h
  ·rcases insC_mem h with h|h
   ·exact .inr (h▸List.mem_cons_self ..)
   ·exact .inl h
  ·exact .inr (List.mem_cons_of_mem _ h)
theorem ostep_mem{y c:Int}{s:List Int×List Int}(h:y∈(ostep s c).1∨y∈(ostep s c).2):y=c∨y∈s.1∨y∈s.2:=by
 unfold ostep at h
 split at h
 ·refine bc λhno=>?_;rcases h with h|h
  ·refine hno ?_;exact .inr (.inl h)
  ·rcases List.mem_append.mp h with h|h
   ·refine hno ?_;exact .inr (.inr h)
   ·refine hno ?_;exact .inl (List.mem_singleton.mp h)
 ·refine bc λhno=>?_;rcases h with h|h
  ·rcases List.mem_append.mp h with h|h
   ·rcases List.mem_append.mp h with h|h
    ·refine hno ?_;exact .inr (.inl h)
    ·rcases srtC_mem h with h|h
     ·cases h
     ·refine hno ?_;exact .inr (.inr h)
   ·refine hno ?_;exact .inl (List.mem_singleton.mp h)
  ·cases h
theorem fold_ostep_mem{y:Int}:∀ {ts:List Int} {s:List Int×List Int},(y∈(ts.foldl ostep s).1∨y∈(ts.foldl ostep s).2)→y∈ts∨y∈s.1∨y∈s.2
 | [],s,h=>.inr h
 |c::ts,s,h=>by
  rw[List.foldl_cons]at h
  rcases fold_ostep_mem h with h|h
  ·exact .inl (List.mem_cons_of_mem _ h)
  ·rcases ostep_mem h with h|h
   ·exact .inl (h▸List.mem_cons_self ..)
   ·exact .inr h
theorem ordP_mem{y:Int}{ts:List Int}(h:y∈ordP ts):y∈ts:=by
 have h':y∈(ts.foldl ostep ([],[])).1++srtC [] (ts.foldl ostep ([],[])).2:=h
 have:y∈(ts.foldl ostep ([],[])).1∨y∈(ts.foldl ostep ([],[])).2:=by
  refine bc λhno=>?_;rcases List.mem_append.mp h' with h|h
  ·refine hno ?_;exact .inl h
  ·rcases srtC_mem h with h|h
   ·cases h
   ·refine hno ?_;exact .inr h
 rcases fold_ostep_mem this with h|h|h
 ·exact h
 ·cases h
 ·cases h
theorem beq_ne_false{a b:Nat}(h:a≠b):Nat.beq a b=false:=by rw[beq_eq];exact decide_eq_false h
section
variable{X:XP}{cv:V}{wd:List Nat}{w cm:Bool}
theorem fo_run(G:Gr X cv wd w cm){st:St}{k0:Nat}{ts:List Int}(hm:∀c∈ts,c∈menu)(hB0:X.B≤k0)(h0:rdO k0 st=some (.list (zV ts)))(hn:ts.length≤20)(hB:X.B≤st.n):∃st2 k,f_form_of X [.ref k0,.ref 0,.str wd,cv] st=some (.ref k,st2)∧lk k st2.H=some (.list (zV (pform w cm ts)))∧X.B≤k:=by
 have s1:=de_pure G hm h0 hB0 hn
 have t:tst X.SR (binE (gt 2) (tupE (esC (cst (.str [110,102,100])) (esC (cst (.str [110,102,107,100])) esN))) (inM X.SR false)) [(0,.ref k0),(1,.ref 0),(2,.str wd),(3,cv),(4,.ref st.n)] (st.add (.list (zV (ordP (ts.flatMap (ap w))))))=some (!cm,st.add (.list (zV (ordP (ts.flatMap (ap w)))))):=
  r_tst (r_bin (r_gt rfl) (r_tup (r_esC r_cst (r_esC r_cst r_esN)) rfl) (G.deco _)) (r_tb rfl)
 have a1:asg (callE (esC (gt 0) (esC (gt 1) (esC (binE (gt 2) (tupE (esC (cst (.str [110,102,107,100])) (esC (cst (.str [110,102,107,99])) esN))) (inM X.SR false)) esN))) (pureM X.RD X.B (f_decomposed X))) (st' 4) [(0,.ref k0),(1,.ref 0),(2,.str wd),(3,cv)] st=some (([(0,.ref k0),(1,.ref 0),(2,.str wd),(3,cv),(4,.ref st.n)],.next),st.add (.list (zV (ordP (ts.flatMap (ap w)))))):=
  r_asgN (r_call (r_esC (r_gt rfl) (r_esC (r_gt rfl) (r_esC (r_bin (r_gt rfl) (r_tup (r_esC r_cst (r_esC r_cst r_esN)) rfl) (G.wide _)) r_esN))) s1)
 cases cm with
 |false=>exact I23 _ st.n (r_fn rfl (r_sq a1 (r_sq_r (r_rtn (r_iteE_t t (r_gt rfl)))))) (lkH_new _ _) hB
 |true=>
  have fl:=flat_len w ts
  have ol:=ordP_len (ts.flatMap (ap w))
  have s2:=co_pure G (st:=st.add (.list (zV (ordP (ts.flatMap (ap w)))))) (k0:=st.n) (ts:=ordP (ts.flatMap (ap w))) (λc h=>flat_DA hm c (ordP_mem h)) (rdO_H (lkH_new _ _)) hB (by lia)
  exact I23 _ (st.n+1) (r_fn rfl (r_sq a1 (r_sq_r (r_rtn (r_iteE_f t (r_call (r_esC (r_gt rfl) (r_esC (r_gt rfl) (r_esC (r_gt rfl) r_esN))) s2)))))) (lkH_new (st.add _) _) (Nat.le_succ_of_le hB)
theorem fo_pure(G:Gr X cv wd w cm){st:St}{k0:Nat}{ts:List Int}(hm:∀c∈ts,c∈menu)(h0:rdO k0 st=some (.list (zV ts)))(hB:X.B≤k0)(hn:ts.length≤20):pureM X.RD X.B (f_form_of X) [.ref k0,.ref 0,.str wd,cv] st=some (.ref st.n,st.add (.list (zV (pform w cm ts)))):=by
 refine E23 (fo_run G (st:=⟨[],[(X.B+0,.list (zV ts))]++X.RD,X.B+4⟩) (k0:=X.B+0) hm (Nat.le_refl _) (rdO_F rfl (lk_head _ _ _)) hn (by show X.B≤X.B+4;lia)) λst2 k r1 r2 r3=>?_
 exact r_pureL (canon_list hB h0 (clos_zV _) (canon_clo G.d0 (canon_clo rfl (canon_clo G.cvc rfl)))) r1 r3 r2 (clos_zV _)
noncomputable def sEs(cv:V)(wd:List Nat)(kh:Nat):List (List Nat×V):=[([100,97,116,97],.ref 0),([119,111,114,100],.str wd),([99,111,109,112,111,115,101,114],cv),([104,101,108,100],.ref kh)]
structure Str (X:XP) (cv:V) (wd:List Nat) (st:St) (ks kd kh:Nat) (held:List Int):Prop where
 i:lk ks st.H=some (.inst 258 kd)
 d:lk kd st.H=some (.ns (sEs cv wd kh))
 h:lk kh st.H=some (.list (zV held))
 ls:ks<st.n
 ld:kd<st.n
 lh:kh<st.n
 bh:X.B≤kh
 hd:kd≠kh
 sd:ks≠kd
 sh:ks≠kh
theorem r_rdN{C0 k kd:Nat}{st:St}{es:List (List Nat×V)}(hi:rdO k st=some (.inst C0 kd))(hd:rdO kd st=some (.ns es)):rdN C0 (.ref k) st=some (kd,es):=by
 unfold rdN
 dsimp only
 rw[hi]
 dsimp only
 rw[beq_eq,decide_eq_true rfl]
 dsimp only
 rw[hd]
theorem r_attr{C0 k kd:Nat}{name:List Nat}{f:Loc→M V}{l:Loc}{st st1:St}{es:List (List Nat×V)}{x:V}(h1:f l st=some (.ref k,st1))(hi:rdO k st1=some (.inst C0 kd))(hd:rdO kd st1=some (.ns es))(hl:lkS name es=some x)(hb:notBi x=true):attrE C0 name f l st=some (x,st1):=
 bnd h1 (by rw[r_rdN hi hd];dsimp only;rw[hl];dsimp only;rw[hb])
theorem r_setN{C0 k kd:Nat}{name:List Nat}{f:Loc→M V}{l:Loc}{st st1:St}{es:List (List Nat×V)}{x:V}(h1:f l st=some (.ref k,st1))(hi:rdO k st1=some (.inst C0 kd))(hd:lk kd st1.H=some (.ns es))(hn:Nat.ble es.length 100=true):atA C0 name f x l st=some (l,{st1 with H:=up kd (.ns (upS name x es)) st1.H}):=
 bnd h1 (bnd (a:=()) (by unfold setN;rw[r_rdN hi (rdO_H hd)];dsimp only;rw[hd];dsimp only;rw[hn]) rfl)
theorem r_methI{C0 k kd:Nat}{name:List Nat}{f:Loc→M V}{fs:Loc→M (List V)}{g:List V→M V}{l:Loc}{st st1 st2:St}{vs:List V}{es:List (List Nat×V)}{r:Option (V×St)}(h1:f l st=some (.ref k,st1))(hi:rdO k st1=some (.inst C0 kd))(hd:rdO kd st1=some (.ns es))(hl:lkS name es=none)(h2:fs l st1=some (vs,st2))(h3:g (.ref k::vs) st2=r):Mine.meth C0 name f fs g l st=r:=
 bnd h1 (bnd (a:=()) (st1:=st1) (by unfold instM;rw[r_rdN hi hd];dsimp only;rw[hl]) (bnd h2 h3))
theorem Str.xt{p:Nat→Prop}{st st2:St}{ks kd kh:Nat}{held:List Int}(S:Str X cv wd st ks kd kh held)(x:Ext p st st2)(h1:¬p ks)(h2:¬p kd)(h3:¬p kh):Str X cv wd st2 ks kd kh held:=
 ⟨x.lk S.i S.ls h1,x.lk S.d S.ld h2,x.lk S.h S.lh h3,Nat.lt_of_lt_of_le S.ls x.le,Nat.lt_of_lt_of_le S.ld x.le,Nat.lt_of_lt_of_le S.lh x.le,S.bh,S.hd,S.sd,S.sh⟩
theorem fin_run(G:Gr X cv wd w cm)(hcv:notBi cv=true){st:St}{ks kd kh:Nat}{held:List Int}(hm:∀c∈held,c∈menu)(hn:held.length≤20)(hB:X.B≤st.n)(S:Str X cv wd st ks kd kh held):
 ∃st2,f_FormStream_finish X [.ref ks] st=some (.ref st.n,st2)∧lk st.n st2.H=some (.list (zV (pform w cm held)))∧Str X cv wd st2 ks kd (st.n+1) []∧Ext (· =kd) st st2∧st.n<st2.n:=by
 have s1:=fo_pure G hm (rdO_H S.h) S.bh hn
 have X1:Ext No st (st.add (.list (zV (pform w cm held)))):=.add _
 have S1:=S.xt X1 (λq=>q) (λq=>q) λq=>q
 have X2:Ext No st ((st.add (.list (zV (pform w cm held)))).add (.list (zV []))):=X1.trans (.add _)
 have S2:=S.xt X2 (λq=>q) (λq=>q) λq=>q
 have at_:∀ {name:List Nat} {x:V},lkS name (sEs cv wd kh)=some x→notBi x=true→attrE 258 name (gt 0) [(0,.ref ks)] st=some (x,st):=λh1 h2=>r_attr (r_gt rfl) (rdO_H S.i) (rdO_H S.d) h1 h2
 have hs:=r_setN (C0:=258) (name:=[104,101,108,100]) (f:=gt 0) (l:=[(0,.ref ks),(1,.ref st.n)]) (x:=.ref (st.n+1)) (r_gt rfl) (rdO_H S2.i) S2.d rfl
 have nk:∀k,k<st.n→k≠st.n+1:=λk h e=>by lia
 refine I15 _ (r_fn rfl (r_sq (r_asgN (r_call (r_esC (at_ rfl rfl) (r_esC (at_ rfl rfl) (r_esC (at_ rfl rfl) (r_esC (at_ rfl hcv) r_esN)))) s1)) (r_sq (r_asg (r_lst1 (vs:=[]) r_esN (Nat.zero_le _)) hs) (r_sq_r (r_rtn (r_gt rfl)))))) ?_ ⟨?_,?_,?_,S2.ls,S2.ld,Nat.lt_succ_self _,Nat.le_succ_of_le hB,nk _ S.ld,S.sd,nk _ S.ls⟩ ((X2.wide λ_ q=>q.elim).trans (.up _ rfl)) (Nat.lt_succ_of_lt (Nat.lt_succ_self _))
 ·exact(lk_other (beq_ne_false (Nat.ne_of_gt S.ld)) ((lkH_old (Nat.lt_succ_self _)).trans (lkH_new _ _)))
 ·exact lk_other (beq_ne_false S.sd) S2.i
 ·exact lk_sameH _ _ _
 ·exact lk_other (beq_ne_false (nk _ S.ld).symm) (lkH_new (st.add _) _)
end
noncomputable def ptB(held:List Int)(c:Int):Bool:= !held.isEmpty&&decide (cls c=0)
noncomputable def pOut(w cm:Bool)(held:List Int)(c:Int):List Int:=match ptB held c with
 |true=>pform w cm held
 |false=>[]
noncomputable def pHeld(held:List Int)(c:Int):List Int:=match ptB held c with
 |true=>[c]
 |false=>held++[c]
theorem pHeld_len(held:List Int)(c:Int):(pHeld held c).length≤held.length+1:=by
 unfold pHeld;split <;> simp
theorem pHeld_mem{held:List Int}{c y:Int}(h:y∈pHeld held c):y=c∨y∈held:=by
 unfold pHeld at h
 split at h
 ·exact .inl (List.mem_singleton.mp h)
 ·rcases List.mem_append.mp h with h|h
  ·exact .inr h
  ·exact .inl (List.mem_singleton.mp h)
theorem zV_empty(a:List Int):(zV a).isEmpty=a.isEmpty:=by cases a <;> rfl
theorem r_truL{SR:List (Nat×AO)}{k:Nat}{a:List Int}{st:St}(h:rdO k st=some (.list (zV a)))(hn:a.length≤100000):truV SR (.ref k) st=some (!a.isEmpty):=by
 unfold truV
 dsimp only
 rw[h]
 dsimp only
 rw[ble_of (by rw[zV_len];exact hn)]
 dsimp only
 rw[zV_empty]
section
variable{X:XP}{cv:V}{wd:List Nat}{w cm:Bool}
theorem put_run(G:Gr X cv wd w cm)(hcv:notBi cv=true)(hst:∀c∈menu,∀st,pureM X.RD X.B (f_is_stable_ahead X) [.int c,.ref 0,.str wd,cv] st=some (.bool (decide (cls c=0)),st))
 {st:St} {ks kd kh:Nat} {held:List Int} {c:Int} (hc:c∈menu) (hm:∀c∈held,c∈menu) (hn:held.length≤20) (hB:X.B≤st.n) (S:Str X cv wd st ks kd kh held):
 ∃st2 k kh2,f_FormStream_put X [.ref ks,.int c] st=some (.ref k,st2)∧lk k st2.H=some (.list (zV (pOut w cm held c)))∧st.n≤k∧k<st2.n∧Str X cv wd st2 ks kd kh2 (pHeld held c)∧Ext (λj=>j=kd∨j=kh) st st2∧(kh2=kh∨st.n≤kh2):=by
 have X1:Ext No st (st.add (.list (zV []))):=.add _
 have S1:=S.xt X1 (λq=>q) (λq=>q) λq=>q
 have at_:∀ {name:List Nat} {x:V} {st1:St} {kh1:Nat} {held1:List Int} {l:Loc},Str X cv wd st1 ks kd kh1 held1→lk 0 l=some (.ref ks)→lkS name (sEs cv wd kh1)=some x→notBi x=true→attrE 258 name (gt 0) l st1=some (x,st1):=λS h0 h1 h2=>r_attr (r_gt h0) (rdO_H S.i) (rdO_H S.d) h1 h2
 have fine:∀ {st1:St} {k kh1:Nat} {held1:List Int},Str X cv wd st1 ks kd kh1 held1→held1.length≤20→k≠kh1→∃st2,(∀ {l:Loc},lk 0 l=some (.ref ks)→lk 1 l=some (.int c)→lk 2 l=some (.ref k)→sq (doE (methB X.SR 1 (attrE 258 [104,101,108,100] (gt 0)) (esC (gt 1) esN) appB)) (sq (rtn (gt 2)) nextS) l st1=some ((l,.ret (.ref k)),st2))∧Str X cv wd st2 ks kd kh1 (held1++[c])∧Ext (· =kh1) st1 st2∧lk k st2.H=lk k st1.H:=by
  intro st1 k kh1 held1 S1 hn1 hne
  refine I14 ({st1 with H:=up kh1 (.list (zV (held1++[c]))) st1.H}) (λh0 h1 h2=>r_sq (r_doE (r_methB (at_ S1 h0 rfl rfl) (rdO_H S1.h) rfl (r_esC (r_gt h1) r_esN) (r_appBZ S1.h (by lia)))) (r_sq_r (r_rtn (r_gt h2)))) ⟨?_,?_,lk_sameH _ _ _,S1.ls,S1.ld,S1.lh,S1.bh,S1.hd,S1.sd,S1.sh⟩ (.up _ rfl) (lk_other (beq_ne_false hne) rfl)
  ·exact lk_other (beq_ne_false S1.sh) S1.i
  ·exact lk_other (beq_ne_false S1.hd) S1.d
 have t1:∀b,(!held.isEmpty)=b→tst X.SR (attrE 258 [104,101,108,100] (gt 0)) [(0,.ref ks),(1,.int c),(2,.ref st.n)] (st.add (.list (zV [])))=some (b,st.add (.list (zV []))):=λb hb=>by
  rw[←hb];exact r_tst (at_ S1 rfl rfl rfl) (r_truL (rdO_H S1.h) (by lia))
 have t2:∀b,decide (cls c=0)=b→tst X.SR (callE (esC (gt 1) (esC (attrE 258 [100,97,116,97] (gt 0)) (esC (attrE 258 [119,111,114,100] (gt 0)) (esC (attrE 258 [99,111,109,112,111,115,101,114] (gt 0)) esN)))) (pureM X.RD X.B (f_is_stable_ahead X))) [(0,.ref ks),(1,.int c),(2,.ref st.n)] (st.add (.list (zV [])))=some (b,st.add (.list (zV []))):=λb hb=>
  r_tst (r_call (r_esC (r_gt rfl) (r_esC (at_ S1 rfl rfl rfl) (r_esC (at_ S1 rfl rfl rfl) (r_esC (at_ S1 rfl rfl hcv) r_esN)))) (hst c hc _)) (r_tb hb)
 have tt:(andT (tst X.SR (attrE 258 [104,101,108,100] (gt 0))) (andT (tst X.SR (callE (esC (gt 1) (esC (attrE 258 [100,97,116,97] (gt 0)) (esC (attrE 258 [119,111,114,100] (gt 0)) (esC (attrE 258 [99,111,109,112,111,115,101,114] (gt 0)) esN)))) (pureM X.RD X.B (f_is_stable_ahead X)))) trueT)) [(0,.ref ks),(1,.int c),(2,.ref st.n)] (st.add (.list (zV [])))=some (ptB held c,st.add (.list (zV []))):=by
  unfold ptB
  cases e: !held.isEmpty with
  |false=>exact r_andT_f (t1 _ e)
  |true=>cases e2:decide (cls c=0) with
   |false=>exact r_andT_t (t1 _ e) (r_andT_f (t2 _ e2))
   |true=>exact r_andT_t (t1 _ e) (r_andT_t (t2 _ e2) r_trueT)
 refine bc λhno=>?_;cases eb:ptB held c with
 |false=>
  rw[eb]at tt
  have eo:pOut w cm held c=[]:=by unfold pOut;rw[eb]
  have eh:pHeld held c=held++[c]:=by unfold pHeld;rw[eb]
  refine hno ?_;rw[eo,eh]
  refine E14 (fine (k:=st.n) S1 hn (Nat.ne_of_gt S.lh)) λst2 r1 r2 r3 r4=>?_
  exact I37 st2 st.n kh (r_fn rfl (r_sq (r_asgN (r_lst1 (vs:=[]) r_esN (Nat.zero_le _))) (r_sq (r_iff_f tt r_nextS) (r1 rfl rfl rfl)))) (r4.trans (lkH_new _ _)) (Nat.le_refl _) (Nat.lt_of_lt_of_le (Nat.lt_succ_self _) r3.le) r2 (Ext.transN (p:=λj=>j=kd∨j=kh) (.add _) r3 (λj _ q=>.inr q)) (.inl rfl)
 |true=>
  rw[eb]at tt
  have eo:pOut w cm held c=pform w cm held:=by unfold pOut;rw[eb]
  have eh:pHeld held c=[c]:=by unfold pHeld;rw[eb]
  refine hno ?_;rw[eo,eh]
  refine bc λhno=>?_;refine E15 (fin_run G hcv hm hn (Nat.le_succ_of_le hB) S1) λst1 f1 f2 f3 f4 f5=>?_
  clear G hcv hst hc hm hn hB S X1 at_ t1 t2 eb eo eh;refine E14 (fine (k:=st.n+1) f3 (Nat.zero_le _) (Nat.ne_of_lt (Nat.lt_succ_self _))) λst2 r1 r2 r3 r4=>?_
  have Y:Ext (λj=>j=kd∨j=kh) st st1:=Ext.transN (.add _) f4 λj _ q=>.inl q
  refine hno ?_;exact I37 st2 (st.n+1) (st.n+1+1) (r_fn rfl (r_sq (r_asgN (r_lst1 (vs:=[]) r_esN (Nat.zero_le _))) (r_sq (r_iff_t tt (r_sq (r_asgN (r_methI (r_gt rfl) (rdO_H S1.i) (rdO_H S1.d) rfl r_esN f1)) r_nextS)) (r1 rfl rfl rfl)))) (r4.trans f2) (Nat.le_succ _) (Nat.lt_of_lt_of_le f5 r3.le) r2 (Y.transN r3 (λj hj q=>by have:j=st.n+1+1:=q;lia)) (.inr (Nat.le_succ_of_le (Nat.le_succ _)))
noncomputable def pallS(w cm:Bool)(q:List Int×List Int)(c:Int):List Int×List Int:=(q.1++pOut w cm q.2 c,pHeld q.2 c)
noncomputable def pa_body(X:XP):Loc→M (Loc×Fl):=(sq (doE (methB X.SR 1 (gt 2) (esC (Mine.meth 258 [112,117,116] (gt 0) (esC (gt 3) esN) (f_FormStream_put X)) esN) (extB X.SR))) nextS)
theorem pa_loop(G:Gr X cv wd w cm)(hcv:notBi cv=true)(hst:∀c∈menu,∀st,pureM X.RD X.B (f_is_stable_ahead X) [.int c,.ref 0,.str wd,cv] st=some (.bool (decide (cls c=0)),st))
 {k0 ks kd kf:Nat} {ts:List Int} (hm:∀c∈ts,c∈menu) (e1:k0≠kd) (e2:k0≠kf) (e3:kf≠kd) (e4:ks≠kf):∀(ts' p:List Int) (fuel:Nat) (l:Loc) (st:St) (kh:Nat) (acc held:List Int),ts=p++ts'→lk 0 l=some (.ref ks)→lk 2 l=some (.ref kf)→X.B≤st.n→rdO k0 st=some (.list (zV ts))→k0<st.n→k0≠kh→kf≠kh→
 lk kf st.H=some (.list (zV acc))→kf<st.n→Str X cv wd st ks kd kh held→(∀c∈held,c∈menu)→held.length+ts'.length≤20→acc.length+60 * ts'.length≤5000→ts'.length<fuel→
 ∃l2 st2 kh2,forM' (itL X.SR (.ref k0)) (st' 3) (pa_body X) fuel p.length l st=some ((l2,.next),st2)∧lk 2 l2=some (.ref kf)∧Ext (λj=>j=kd∨j=kh∨j=kf) st st2∧lk kf st2.H=some (.list (zV (ts'.foldl (pallS w cm) (acc,held)).1))∧Str X cv wd st2 ks kd kh2 (ts'.foldl (pallS w cm) (acc,held)).2∧(kh2=kh∨st.n≤kh2)
 |ts',p,0,_,_,_,_,_,_,_,_,_,_,_,_,_,_,_,_,_,_,_,hf=>absurd hf (Nat.not_lt_zero _)
 | [],p,fu+1,l,st,kh,acc,held,e,hl0,hl2,hB,h0,hk,n1,n2,hf,kf1,S,hh,hn,hn2,_=>⟨l,st,kh,r_forEnd (by rw[r_itL h0,e,List.append_nil,List.getElem?_eq_none (by rw[zV_len];exact Nat.le_refl _)]),hl2,.refl,hf,S,.inl rfl⟩
 |c::ts',p,fu+1,l,st,kh,acc,held,e,hl0,hl2,hB,h0,hk,n1,n2,hf,kf1,S,hh,hn,hn2,hfu=>by
  have hit:itL X.SR (.ref k0) p.length st=some (some (.int c)):=by
   rw[r_itL h0,zV_get (x:=c) (by rw[e,List.getElem?_append_right (Nat.le_refl _),Nat.sub_self];rfl)]
  rw[List.length_cons]at hn hfu hn2
  have hc:c∈menu:=hm c (by rw[e];simp)
  refine bc λhno=>?_;refine E37 (put_run G hcv hst hc hh (by lia) hB S) λst1 k kh2 r1 r2 r3 r4 r5 r6 r7=>?_
  have ol:(pOut w cm held c).length≤60:=by
   unfold pOut
   split
   ·have:=pform_len w cm held;lia
   ·exact Nat.zero_le _
  have hl:=pHeld_len held c
  have hf1:lk kf st1.H=some (.list (zV acc)):=r6.lk hf kf1 λq=>by rcases q with q|q;exact e3 q;exact n2 q
  have nkf:kf≠kh2:=by rcases r7 with q|q;exact q▸n2;lia
  have nk0:k0≠kh2:=by rcases r7 with q|q;exact q▸n1;lia
  have x1:=r_extZ (SR:=X.SR) (j:=k) hf1 (rdO_H r2) (by lia)
  have q1:pa_body X (up 3 (.int c) l) st=some ((up 3 (.int c) l,.next),_):=r_sq (r_doE (r_methB (r_gt (lk_other rfl hl2)) (rdO_H hf) rfl (r_esC (r_methI (r_gt (lk_other rfl hl0)) (rdO_H S.i) (rdO_H S.d) rfl (r_esC (r_gt (lk_same _ _ _)) r_esN) r1) r_esN) x1)) r_nextS
  have Y:Ext (λj=>j=kd∨j=kh∨j=kf) st {st1 with H:=up kf (.list (zV (acc++pOut w cm held c))) st1.H}:=(r6.wide λj q=>by rcases q with q|q;exact .inl q;exact .inr (.inl q)).trans (.up _ (.inr (.inr rfl)))
  have S2:Str X cv wd {st1 with H:=up kf (.list (zV (acc++pOut w cm held c))) st1.H} ks kd kh2 (pHeld held c):=r5.xt (Ext.up (p:=(· =kf)) _ rfl) (λq=>e4 q) (λq=>e3 q.symm) (λq=>nkf q.symm)
  refine E36 (pa_loop G hcv hst hm e1 e2 e3 e4 ts' (p++[c]) fu (up 3 (.int c) l) {st1 with H:=up kf (.list (zV (acc++pOut w cm held c))) st1.H} kh2 (acc++pOut w cm held c) (pHeld held c) (by rw[e,List.append_assoc];rfl) (lk_other rfl hl0) (lk_other rfl hl2) (Nat.le_trans hB Y.le) (Y.rd h0 hk (λq=>by rcases q with q|q|q;exact e1 q;exact n1 q;exact e2 q)) (Nat.lt_of_lt_of_le hk Y.le) nk0 nkf (lk_sameH _ _ _) (Nat.lt_of_lt_of_le kf1 Y.le) S2 (λy hy=>by rcases pHeld_mem hy with q|q;exact q▸hc;exact hh y q) (by lia) (by rw[List.length_append];lia) (by lia)) λl3 st3 kh3 p1 p2 p3 p4 p5 p6=>?_
  rw[List.length_append]at p1
  refine hno ?_;refine I36 l3 st3 kh3 (r_forStep hit rfl q1 p1) p2 (Y.transN p3 (λj hj q=>?_)) p4 p5 ?_
  ·rcases q with q|q|q
   ·exact .inl q
   ·rcases r7 with z|z
    ·exact .inr (.inl (q.trans z))
    ·lia
   ·exact .inr (.inr q)
  ·rcases p6 with q|q
   ·rcases r7 with z|z
    ·exact .inl (q.trans z)
    ·exact .inr (q▸z)
   ·exact .inr (Nat.le_trans Y.le q)
theorem pa_run(G:Gr X cv wd w cm)(hcv:notBi cv=true)(hst:∀c∈menu,∀st,pureM X.RD X.B (f_is_stable_ahead X) [.int c,.ref 0,.str wd,cv] st=some (.bool (decide (cls c=0)),st))
 {st:St} {k0 ks kd kh:Nat} {ts held:List Int} (hm:∀c∈ts,c∈menu) (hh:∀c∈held,c∈menu) (e1:k0≠kd) (n1:k0≠kh) (hB:X.B≤st.n) (h0:rdO k0 st=some (.list (zV ts))) (hk:k0<st.n) (S:Str X cv wd st ks kd kh held) (hn:held.length+ts.length≤20):
 ∃st2 kh2,f_FormStream_put_all X [.ref ks,.ref k0] st=some (.ref st.n,st2)∧lk st.n st2.H=some (.list (zV (ts.foldl (pallS w cm) ([],held)).1))∧Ext (λj=>j=kd∨j=kh) st st2∧Str X cv wd st2 ks kd kh2 (ts.foldl (pallS w cm) ([],held)).2∧(kh2=kh∨st.n≤kh2)∧st.n<st2.n:=by
 have X1:Ext No st (st.add (.list (zV []))):=.add _
 have S1:=S.xt X1 (λq=>q) (λq=>q) λq=>q
 refine E36 (pa_loop G hcv hst (k0:=k0) (ks:=ks) (kd:=kd) (kf:=st.n) hm e1 (Nat.ne_of_lt hk) (Nat.ne_of_gt S.ld) (Nat.ne_of_lt S.ls) ts [] 1000 [(0,.ref ks),(1,.ref k0),(2,.ref st.n)] (st.add (.list (zV []))) kh [] held rfl rfl rfl (Nat.le_succ_of_le hB) (X1.rd h0 hk λq=>q) (Nat.lt_succ_of_lt hk) n1 (Nat.ne_of_gt S.lh) (lkH_new _ _) (Nat.lt_succ_self _) S1 hh hn (by simp;lia) (by lia)) λl2 st2 kh2 p1 p2 p3 p4 p5 p6=>?_
 refine I26 st2 kh2 (r_fn rfl (r_sq (r_asgN (r_lst1 (vs:=[]) r_esN (Nat.zero_le _))) (r_sq (r_for (r_valI (r_gt rfl) (X1.rd h0 hk λq=>q)) p1) (r_sq_r (r_rtn (r_gt p2)))))) p4 (Ext.transN (.add _) p3 (λj hj q=>?_)) p5 ?_ (Nat.lt_of_lt_of_le (Nat.lt_succ_self _) p3.le)
 ·rcases q with q|q|q
  ·exact .inl q
  ·exact .inr q
  ·lia
 ·rcases p6 with q|q
  ·exact .inl q
  ·exact .inr (Nat.le_of_succ_le q)
end
theorem cls_nn(c:Int):0≤cls c:=by
 unfold cls
 repeat' split
 all_goals decide
theorem gD_l{a b:List Int}{n:Nat}(h:n<a.length):(a++b).getD n 0=a.getD n 0:=by
 rw[List.getD_eq_getElem?_getD,List.getD_eq_getElem?_getD,List.getElem?_append_left h]
theorem gD_r{a b:List Int}{n:Nat}(h:a.length≤n):(a++b).getD n 0=b.getD (n-a.length) 0:=by
 rw[List.getD_eq_getElem?_getD,List.getD_eq_getElem?_getD,List.getElem?_append_right h]
theorem gD_e{a:List Int}{n:Nat}(h:n<a.length):a.getD n 0=a[n]:=by
 rw[List.getD_eq_getElem?_getD,List.getElem?_eq_getElem h];rfl
theorem bk_shift{f S:List Int}{w:Int}(h:cls (f.getD (f.length-1) 0)≤w):∀j,bk (f++S) w (f.length+j)=f.length+bk S w j
 |0=>by
  rw[Nat.add_zero,bk,Nat.add_zero]
  cases e:f.length with
  |zero=>rfl
  |succ n=>
   rw[bk,if_neg]
   intro y81;refine E02 y81 λ_ h2=>?_;clear y81
   rw[gD_l (by lia)]at h2
   rw[e,Nat.add_sub_cancel]at h
   lia
 |j+1=>by
  rw[←Nat.add_assoc,bk,bk,gD_r (by lia),Nat.add_sub_cancel_left,bk_shift h j]
  split <;> rfl
theorem ins_shift{f S:List Int}{c:Int}(h:cls (f.getD (f.length-1) 0)≤cls c):ins (f++S) c=f++ins S c:=by
 unfold ins
 rw[List.length_append,bk_shift h,List.take_length_add_append,List.drop_length_add_append]
 simp only[List.append_assoc]
theorem bk_all{S:List Int}{w:Int}(hw:0<w)(h:∀y∈S,w<cls y):∀n,n≤S.length→bk S w n=0
 |0,_=>rfl
 |n+1,hn=>by
  have:w<cls (S.getD n 0):=by
   rw[gD_e (Nat.lt_of_succ_le hn)];exact h _ (List.getElem_mem _)
  rw[bk,if_pos ⟨hw,this⟩];exact bk_all hw h n (Nat.le_of_succ_le hn)
noncomputable abbrev Srtd(S:List Int):Prop:=S.Pairwise λx y=>cls x≤cls y
theorem ins_insC{c:Int}(hc:0<cls c):∀ {S:List Int},Srtd S→ins S c=insC c S
 | [],_=>rfl
 |q::r,h=>by
  have h':=List.pairwise_cons.mp h
  rw[insC]
  cases e:decide (cls c<cls q) with
  |true=>
   have e':=of_decide_eq_true e
   have:bk (q::r) (cls c) (q::r).length=0:=bk_all hc (λy hy=>by
    clear hc h e;rcases List.mem_cons.mp hy with hy|hy
    ·rw[hy];exact e'
    ·have:=h'.1 y hy;lia) _ (Nat.le_refl _)
   unfold ins
   rw[this];rfl
  |false=>
   have e':=of_decide_eq_false e
   have:=ins_shift (f:=[q]) (S:=r) (c:=c) (by show cls q≤_;lia)
   rw[List.singleton_append,List.singleton_append,ins_insC hc h'.2]at this
   exact this
theorem insC_srtd{c:Int}:∀ {S:List Int},Srtd S→Srtd (insC c S)
 | [],_=>List.pairwise_singleton ..
 |q::r,h=>by
  have h':=List.pairwise_cons.mp h
  rw[insC]
  cases e:decide (cls c<cls q) with
  |true=>
   have e':=of_decide_eq_true e
   refine List.pairwise_cons.mpr ⟨λy hy=>?_,h⟩
   rcases List.mem_cons.mp hy with hy|hy
   ·rw[hy];lia
   ·have:=h'.1 y hy;lia
  |false=>
   have e':=of_decide_eq_false e
   refine List.pairwise_cons.mpr ⟨λy hy=>?_,insC_srtd h'.2⟩
   rcases insC_mem hy with hy|hy
   ·rw[hy];lia
   ·exact h'.1 y hy
theorem srtC_srtd:∀ {r l:List Int},Srtd l→Srtd (srtC l r)
 | [],l,h=>h
 |x::r,l,h=>by rw[srtC];exact srtC_srtd (insC_srtd h)
theorem srtC_snoc:∀(r l:List Int) (c:Int),srtC l (r++[c])=insC c (srtC l r)
 | [],l,c=>rfl
 |x::r,l,c=>by rw[List.cons_append,srtC,srtC,srtC_snoc r]
theorem getD_snoc(a:List Int)(c:Int):(a++[c]).getD ((a++[c]).length-1) 0=c:=by
 rw[List.length_append]
 show(a++[c]).getD (a.length+1-1) 0=c
 rw[Nat.add_sub_cancel,gD_r (Nat.le_refl _),Nat.sub_self];rfl
theorem ins_zero{a:List Int}{c:Int}(h:cls c=0):ins a c=a++[c]:=by
 have:bk a (cls c) a.length=a.length:=by
  cases a.length with
  |zero=>rfl
  |succ n=>rw[bk,h,if_neg (λz=>by have:=z.1;omega)]
 unfold ins
 rw[this,List.take_length,List.drop_length,List.append_nil]
theorem ostep_ins{s:List Int×List Int}{c:Int}(h:cls (s.1.getD (s.1.length-1) 0)=0):ins (s.1++srtC [] s.2) c=(ostep s c).1++srtC [] (ostep s c).2∧cls ((ostep s c).1.getD ((ostep s c).1.length-1) 0)=0:=by
 unfold ostep
 split
 ·rename_i hc
  refine⟨?_,h⟩
  dsimp only
  rw[srtC_snoc,ins_shift (by rw[h];lia),ins_insC hc (srtC_srtd List.Pairwise.nil)]
 ·rename_i hc
  have e:cls c=0:=by have:=cls_nn c;lia
  refine⟨?_,?_⟩
  ·rw[ins_zero e]
   show _=s.1++srtC [] s.2++[c]++[]
   rw[List.append_nil]
  ·dsimp only;rw[getD_snoc];exact e
theorem fold_ins:∀(ts:List Int) (s:List Int×List Int),cls (s.1.getD (s.1.length-1) 0)=0→ts.foldl ins (s.1++srtC [] s.2)=(ts.foldl ostep s).1++srtC [] (ts.foldl ostep s).2
 | [],s,_=>rfl
 |c::ts,s,h=>by
  refine E02 (ostep_ins (c:=c) h) λh1 h2=>?_
  rw[List.foldl_cons,List.foldl_cons,h1,fold_ins ts _ h2]
theorem ordP_ins(ts:List Int):ts.foldl ins []=ordP ts:=fold_ins ts ([],[]) rfl
theorem spots_snoc(a:List Int)(c:Int):spots (a++[c])=spots a++if cls c=0 then [a.length]else []:=by
 unfold spots
 rw[List.length_append,List.length_singleton,List.range'_1_concat,List.filter_append,Nat.zero_add]
 congr 1
 ·refine List.filter_congr λk hk=>?_
  have:=(List.mem_range'_1.mp hk).2
  rw[gD_l (by lia)]
 ·have:(a++[c]).getD a.length 0=c:=by rw[gD_r (Nat.le_refl _),Nat.sub_self];rfl
  rw[List.filter_cons,List.filter_nil,this]
  by_cases h:cls c=0
  ·rw[if_pos h,if_pos (decide_eq_true h)]
  ·rw[if_neg h,if_neg (by rw[decide_eq_false h];decide)]
theorem spots_set{a:List Int}{s:Nat}{v:Int}(h:cls (a.getD s 0)=0)(hv:cls v=0):spots (a.set s v)=spots a:=by
 unfold spots
 rw[List.length_set]
 refine List.filter_congr λk hk=>?_
 rw[List.getD_eq_getElem?_getD,List.getD_eq_getElem?_getD,List.getElem?_set]
 split
 ·rename_i e
  clear hk;subst e
  split
  ·rw[Option.getD_some,hv]
   rw[List.getD_eq_getElem?_getD]at h
   rw[h]
  ·rename_i h2
   have:a[s]? =none:=List.getElem?_eq_none (by lia)
   rw[this]
 ·rfl
theorem spots_last{a:List Int}{s:Nat}(h:(spots a).getLast? =some s):s<a.length∧cls (a.getD s 0)=0:=by
 have:=List.mem_of_getLast? h
 refine E02 (List.mem_filter.mp this) λh1 h2=>?_
 exact⟨by have:=(List.mem_range'_1.mp h1).2;lia,of_decide_eq_true h2⟩
theorem maxZ_snoc:∀(l:List Int) (x:Int),maxZ (l++[x])=some (match maxZ l with|none=>x|some b=>if b<x then x else b)
 | [],x=>rfl
 |a::r,x=>by
  rw[List.cons_append,maxZ,maxZ_snoc r x,maxZ]
  cases e:maxZ r with
  |none=>
   rfl
  |some b=>
   dsimp only
   congr 1
   repeat' split
   all_goals lia
theorem mk_cls{x c v:Int}(h:v∈mk x c):cls v=0:=by
 unfold mk at h
 refine E12 (List.mem_map.mp h) λi hi e=>?_
 have hi':=(List.mem_filter.mp hi).1
 rw[←e]
 revert hi'
 clear e hi h
 revert i
 decide
structure CI (q:CS):Prop where
 sp:(spots q.1).getLast? =q.2.1
 mx:∀n,q.2.1=some n→(q.1.drop (n+1)=[]∧q.2.2= -1)∨(q.1.drop (n+1)≠[]∧maxZ ((q.1.drop (n+1)).map cls)=some q.2.2∧0<q.2.2)
theorem CI.push{q:CS}(h:CI q)(c:Int):CI (cpush q c)∧(cpush q c).1=q.1++[c]:=by
 unfold cpush
 by_cases e:cls c=0
 ·rw[if_pos e]
  refine⟨⟨?_,λn hn=>.inl ⟨?_,rfl⟩⟩,rfl⟩
  ·dsimp only
   rw[spots_snoc,if_pos e,List.getLast?_append];rfl
  ·obtain rfl:=sin hn
   dsimp only
   rw[List.drop_eq_nil_of_le (by rw[List.length_append];exact Nat.le_refl _)]
 ·rw[if_neg e]
  refine⟨⟨?_,λn hn=>.inr ?_⟩,rfl⟩
  ·dsimp only
   rw[spots_snoc,if_neg e,List.append_nil];exact h.sp
  ·dsimp only at hn ⊢
   have hp:0<cls c:=by have:=cls_nn c;lia
   have hl:=(spots_last (h.sp.trans hn)).1
   rw[List.drop_append_of_le_length (by lia)]
   refine I03 (by simp) ?_ ?_
   ·rw[List.map_append,List.map_singleton,maxZ_snoc]
    rcases h.mx n hn with⟨h1,h2⟩|⟨h1,h2,h3⟩
    ·rw[h1,h2,if_pos (by lia)];rfl
    ·rw[h2]
   ·rcases h.mx n hn with⟨h1,h2⟩|⟨h1,h2,h3⟩
    ·rw[h2,if_pos (by lia)];exact hp
    ·split
     ·exact hp
     ·exact h3
theorem cstep_tog{q:CS}(h:CI q)(c:Int):CI (cstep q c)∧(cstep q c).1=tog q.1 c:=by
 have hp:=h.push c
 unfold tog
 rw[h.sp]
 cases e:q.2.1 with
 |none=>
  have:cstep q c=cpush q c:=by unfold cstep cB;rw[e]
  rw[this];exact hp
 |some n=>
  refine E02 (spots_last (h.sp.trans e)) λhl hz=>?_
  dsimp only
  have cond:cB q c=(decide ((q.1.drop (n+1)).map cls=[])||(decide (0<cls c)&&decide ((maxZ ((q.1.drop (n+1)).map cls)).getD 0<cls c))):=by
   unfold cB
   rw[e]
   dsimp only
   refine bc λhno=>?_;rcases h.mx n e with⟨h1,h2⟩|⟨h1,h2,h3⟩
   ·have:n+1=q.1.length:=by have:=List.drop_eq_nil_iff.mp h1;lia
    refine hno ?_;rw[h1,decide_eq_true this];rfl
   ·have a1:¬n+1=q.1.length:=λz=>h1 (List.drop_eq_nil_of_le (Nat.le_of_eq z.symm))
    have a2:¬(q.1.drop (n+1)).map cls=[]:=λz=>h1 (List.map_eq_nil_iff.mp z)
    refine hno ?_;rw[decide_eq_false a1,decide_eq_false a2,h2,Option.getD_some,Bool.false_or,Bool.false_or]
    by_cases z:q.2.2<cls c
    ·rw[decide_eq_true z,decide_eq_true (by lia:0<cls c)];rfl
    ·rw[decide_eq_false z,Bool.and_false]
  have ht:togB q.1 n c=(!decide (mk (q.1.getD n 0) c=[])&&cB q c):=by rw[cond];rfl
  rw[ht]
  cases eb:cB q c with
  |false=>
   have:cstep q c=cpush q c:=by unfold cstep;rw[eb]
   rw[this,Bool.and_false];exact hp
  |true=>
   cases em:mk (q.1.getD n 0) c with
   |nil=>
    have:cstep q c=cpush q c:=by unfold cstep;rw[eb,e];dsimp only;rw[em]
    rw[this];exact hp
   |cons v r=>
    have:cstep q c=(q.1.set n v,some n,q.2.2):=by unfold cstep;rw[eb,e];dsimp only;rw[em]
    rw[this]
    have hv:cls v=0:=mk_cls (x:=q.1.getD n 0) (c:=c) (by rw[em];exact List.mem_cons_self ..)
    refine⟨⟨?_,λk hk=>?_⟩,rfl⟩
    ·dsimp only;rw[spots_set hz hv,h.sp,e]
    ·obtain rfl:=sin hk
     dsimp only
     rw[List.drop_set_of_lt (Nat.lt_succ_self _)]
     exact h.mx n e
theorem fold_tog:∀(ts:List Int) (q:CS),CI q→(ts.foldl cstep q).1=ts.foldl tog q.1
 | [],q,_=>rfl
 |c::ts,q,h=>by
  refine E02 (cstep_tog h c) λh1 h2=>?_
  rw[List.foldl_cons,List.foldl_cons,fold_tog ts _ h1,h2]
theorem comP_tog(ts:List Int):ts.foldl tog []=comP ts:=(fold_tog ts ([],none,-1) ⟨rfl,λn hn=>by cases hn⟩).symm
theorem lform_pform(w cm:Bool)(ts:List Int):lform w cm ts=pform w cm ts:=by
 unfold lform pform
 cases cm with
 |false=>exact ordP_ins _
 |true=>dsimp only;rw[ordP_ins,comP_tog]
theorem ostep_shift(g:List Int):∀(ts:List Int) (f r:List Int),(ts.foldl ostep (g++f,r))=(g++(ts.foldl ostep (f,r)).1,(ts.foldl ostep (f,r)).2)
 | [],f,r=>rfl
 |c::ts,f,r=>by
  rw[List.foldl_cons,List.foldl_cons]
  by_cases h:0<cls c
  ·have a1:ostep (g++f,r) c=(g++f,r++[c]):=if_pos h
   have a2:ostep (f,r) c=(f,r++[c]):=if_pos h
   rw[a1,a2]
   exact ostep_shift g ts _ _
  ·have a1:ostep (g++f,r) c=(g++f++srtC [] r++[c],[]):=if_neg h
   have a2:ostep (f,r) c=(f++srtC [] r++[c],[]):=if_neg h
   have:=ostep_shift g ts (f++srtC [] r++[c]) []
   rw[a1,a2,List.append_assoc,List.append_assoc,←List.append_assoc f]
   exact this
theorem ordP_app(a b:List Int)(x:Int)(hx:cls x=0):ordP (a++x::b)=ordP a++ordP (x::b):=by
 have e1:∀s:List Int×List Int,ostep s x=(s.1++srtC [] s.2++[x],[]):=λs=>if_neg (by lia)
 have e2:∀ts,ordP ts=(ts.foldl ostep ([],[])).1++srtC [] (ts.foldl ostep ([],[])).2:=λ_=>rfl
 rw[e2 (a++x::b),e2 (x::b),List.foldl_append,List.foldl_cons,List.foldl_cons,e1,e1,←e2 a,ostep_shift (ordP a) b [x] []]
 rw[List.append_assoc]
 rfl
theorem ordP_head(b:List Int)(x:Int)(hx:cls x=0):∃b',ordP (x::b)=x::b':=by
 have e1:∀s:List Int×List Int,ostep s x=(s.1++srtC [] s.2++[x],[]):=λs=>if_neg (by lia)
 have e2:∀ts,ordP ts=(ts.foldl ostep ([],[])).1++srtC [] (ts.foldl ostep ([],[])).2:=λ_=>rfl
 have:=ostep_shift [x] b [] []
 rw[e2,List.foldl_cons,e1]
 show ∃b',(b.foldl ostep ([x]++[],[])).1++srtC [] (b.foldl ostep ([x]++[],[])).2=x::b'
 rw[this]
 exact I11 _ rfl
theorem cstep_shift(g:List Int):∀(ts:List Int) (f:List Int) (n:Nat) (m:Int),n<f.length→(ts.foldl cstep (g++f,some (g.length+n),m)).1=g++(ts.foldl cstep (f,some n,m)).1
 | [],f,n,m,_=>rfl
 |c::ts,f,n,m,hn=>by
  have ec:cB (g++f,some (g.length+n),m) c=cB (f,some n,m) c:=by
   show(decide (g.length+n+1=(g++f).length)||decide (m<cls c))=(decide (n+1=f.length)||decide (m<cls c))
   congr 1
   rw[List.length_append]
   clear hn;by_cases h:n+1=f.length
   ·rw[decide_eq_true h,decide_eq_true (by lia)]
   ·rw[decide_eq_false h,decide_eq_false (by lia)]
  have eg:(g++f).getD (g.length+n) 0=f.getD n 0:=by rw[gD_r (by lia),Nat.add_sub_cancel_left]
  have hpush:(ts.foldl cstep (cpush (g++f,some (g.length+n),m) c)).1=g++(ts.foldl cstep (cpush (f,some n,m) c)).1:=by
   by_cases h:cls c=0
   ·have a1:cpush (g++f,some (g.length+n),m) c=(g++f++[c],some (g++f).length,-1):=if_pos h
    have a2:cpush (f,some n,m) c=(f++[c],some f.length,-1):=if_pos h
    rw[a1,a2,List.length_append,List.append_assoc,cstep_shift g ts (f++[c]) f.length (-1) (by rw[List.length_append];exact Nat.lt_succ_self _)]
   ·have a1:cpush (g++f,some (g.length+n),m) c=(g++f++[c],some (g.length+n),if m<cls c then cls c else m):=if_neg h
    have a2:cpush (f,some n,m) c=(f++[c],some n,if m<cls c then cls c else m):=if_neg h
    rw[a1,a2,List.append_assoc,cstep_shift g ts (f++[c]) n _ (by rw[List.length_append];lia)]
  rw[List.foldl_cons,List.foldl_cons]
  have u1:cstep (g++f,some (g.length+n),m) c=match cB (f,some n,m) c with
   |false=>cpush (g++f,some (g.length+n),m) c
   |true=>match mk (f.getD n 0) c with
    | []=>cpush (g++f,some (g.length+n),m) c
    |v::_=>((g++f).set (g.length+n) v,some (g.length+n),m):=by
   rw[←ec,←eg];rfl
  have u2:cstep (f,some n,m) c=match cB (f,some n,m) c with
   |false=>cpush (f,some n,m) c
   |true=>match mk (f.getD n 0) c with
    | []=>cpush (f,some n,m) c
    |v::_=>(f.set n v,some n,m):=rfl
  rw[u1,u2]
  cases cB (f,some n,m) c with
  |false=>exact hpush
  |true=>
   clear ec eg u1 u2;cases mk (f.getD n 0) c with
   |nil=>exact hpush
   |cons v r=>
    dsimp only
    rw[List.set_append_right _ _ (by lia),Nat.add_sub_cancel_left,cstep_shift g ts (f.set n v) n m (by rw[List.length_set];exact hn)]
theorem mk_zero{y x:Int}(hx:cls x=0):mk y x=[]:=by
 unfold mk
 rw[List.map_eq_nil_iff,List.filter_eq_nil_iff]
 intro i hi
 have:∀i∈List.range' 0 prs.length,cls (prs.getD i ((0,0),0)).1.2≠0:=by decide
 have h:=this i hi
 unfold prB
 intro z
 rw[Bool.and_eq_true,Bool.and_eq_true]at z
 have z2:=of_decide_eq_true z.2.1
 rw[z2]at h
 exact h hx
theorem comP_app(a b:List Int)(x:Int)(hx:cls x=0):comP (a++x::b)=comP a++comP (x::b):=by
 have e1:∀q:CS,cstep q x=(q.1++[x],some q.1.length,-1):=λq=>by
  have hp:cpush q x=(q.1++[x],some q.1.length,-1):=if_pos hx
  unfold cstep
  cases cB q x with
  |false=>exact hp
  |true=>cases q.2.1 with
   |none=>exact hp
   |some n=>dsimp only;rw[mk_zero hx];exact hp
 have:=cstep_shift (comP a) b [x] 0 (-1) (Nat.lt_succ_self _)
 show((a++x::b).foldl cstep ([],none,-1)).1=comP a++((x::b).foldl cstep ([],none,-1)).1
 rw[List.foldl_append,List.foldl_cons,List.foldl_cons,e1,e1]
 exact this
theorem ap_head{w:Bool}{c:Int}(h:c∈menu)(hc:cls c=0):∃x r,ap w c=x::r∧cls x=0:=by
 have:∀w:Bool,∀c∈menu,cls c=0→cls ((ap w c).headD 768)=0:=by decide
 have h2:=this w c h hc
 cases e:ap w c with
 |nil=>rw[e]at h2;exact absurd h2 (by decide)
 |cons x r=>rw[e]at h2;exact I22 x r rfl h2
theorem pform_app(w cm:Bool)(a b:List Int)(c:Int)(h:c∈menu)(hc:cls c=0):pform w cm (a++c::b)=pform w cm a++pform w cm (c::b):=by
 refine E22 (ap_head (w:=w) h hc) λx r e hx=>?_
 have e1:(a++c::b).flatMap (ap w)=a.flatMap (ap w)++x::(r++b.flatMap (ap w)):=by rw[List.flatMap_append,List.flatMap_cons,e];rfl
 have e2:(c::b).flatMap (ap w)=x::(r++b.flatMap (ap w)):=by rw[List.flatMap_cons,e];rfl
 unfold pform
 rw[e1,e2,ordP_app _ _ _ hx]
 cases cm with
 |false=>rfl
 |true=>
  dsimp only
  refine E11 (ordP_head (r++b.flatMap (ap w)) x hx) λb' hb=>?_
  rw[hb,comP_app _ _ _ hx]
structure PI (w cm:Bool) (q:List Int×List Int) (p:List Int):Prop where
 cut:∃done,p=done++q.2∧q.1=pform w cm done∧(done=[]∨∃c r,q.2=c::r∧c∈menu∧cls c=0)
theorem pform_nil(w cm:Bool):pform w cm []=[]:=by cases cm <;> rfl
theorem PI.step{w cm:Bool}{q:List Int×List Int}{p:List Int}(h:PI w cm q p){c:Int}(hc:c∈menu):PI w cm (pallS w cm q c) (p++[c]):=by
 refine E13 h.cut λdone h1 h2 h3=>?_
 unfold pallS pOut pHeld
 cases eb:ptB q.2 c with
 |true=>
  unfold ptB at eb
  rw[Bool.and_eq_true]at eb
  refine⟨p,rfl,?_,.inr ⟨c,[],rfl,hc,of_decide_eq_true eb.2⟩⟩
  dsimp only
  rw[h1,h2]
  refine bc λhno=>?_;rcases h3 with h3|⟨x,r,e,hx,hz⟩
  ·refine hno ?_;rw[h3,pform_nil];rfl
  ·refine hno ?_;rw[e,pform_app w cm done r x hx hz]
 |false=>
  refine⟨done,by dsimp only;rw[h1,List.append_assoc],by dsimp only;rw[h2,List.append_nil],?_⟩
  refine bc λhno=>?_;rcases h3 with h3|⟨x,r,e,hx,hz⟩
  ·refine hno ?_;exact .inl h3
  ·refine hno ?_;exact .inr ⟨x,r++[c],by dsimp only;rw[e];rfl,hx,hz⟩
theorem PI.fold{w cm:Bool}:∀ {ts:List Int} {q:List Int×List Int} {p:List Int},PI w cm q p→(∀c∈ts,c∈menu)→PI w cm (ts.foldl (pallS w cm) q) (p++ts)
 | [],q,p,h,_=>by rw[List.append_nil];exact h
 |c::ts,q,p,h,hm=>by
  have:=(h.step (hm c (List.mem_cons_self ..))).fold (ts:=ts) λy hy=>hm y (List.mem_cons_of_mem _ hy)
  rw[List.append_assoc]at this
  exact this
theorem PI.due{w cm:Bool}{q:List Int×List Int}{p:List Int}(h:PI w cm q p)(r:List Int):pform w cm (p++r)=q.1++pform w cm (q.2++r):=by
 refine E13 h.cut λdone h1 h2 h3=>?_
 rw[h1,h2]
 refine bc λhno=>?_;rcases h3 with h3|⟨x,r',e,hx,hz⟩
 ·refine hno ?_;rw[h3,pform_nil];rfl
 ·refine hno ?_;rw[e,List.append_assoc,List.cons_append,pform_app w cm done (r'++r) x hx hz]
theorem pall_shift(w cm:Bool):∀(ts a h:List Int),ts.foldl (pallS w cm) (a,h)=(a++(ts.foldl (pallS w cm) ([],h)).1,(ts.foldl (pallS w cm) ([],h)).2)
 | [],a,h=>by rw[List.foldl_nil,List.foldl_nil,List.append_nil]
 |c::ts,a,h=>by
  rw[List.foldl_cons,List.foldl_cons]
  show ts.foldl (pallS w cm) (a++pOut w cm h c,pHeld h c)= _
  rw[pall_shift w cm ts (a++pOut w cm h c) (pHeld h c)]
  have:pallS w cm ([],h) c=([]++pOut w cm h c,pHeld h c):=rfl
  rw[this,pall_shift w cm ts ([]++pOut w cm h c) (pHeld h c)]
  simp only[List.nil_append,List.append_assoc]
noncomputable abbrev sCE:List Nat:=[99,101,108,108,115]
noncomputable abbrev sMI:List Nat:=[109,105,120,101,100]
noncomputable abbrev sTU:List Nat:=[116,117,114,110]
noncomputable def dkO(kc:Nat)(m t:Int):AO:=.sd [(sCE,.ref kc),(sMI,.int m),(sTU,.int t)]
structure Dk (st:St) (kd kc T:Nat):Prop where
 ex:∃cs m t,lk kd st.H=some (dkO kc m t)∧lk kc st.H=some (.list (zV cs))∧0≤m∧m<2147483587∧0≤t∧t≤(T:Int)∧cs.length≤16
 ld:kd<st.n
 lc:kc<st.n
 ne:kd≠kc
theorem Dk.xt{p:Nat→Prop}{st st2:St}{kd kc T:Nat}(D:Dk st kd kc T)(x:Ext p st st2)(h1:¬p kd)(h2:¬p kc):Dk st2 kd kc T:=by
 refine E33 D.ex λcs m t a b r=>?_
 exact⟨⟨cs,m,t,x.lk a D.ld h1,x.lk b D.lc h2,r⟩,Nat.lt_of_lt_of_le D.ld x.le,Nat.lt_of_lt_of_le D.lc x.le,D.ne⟩
theorem r_gsd{SR:List (Nat×AO)}{st:St}{k:Nat}{es:List (List Nat×V)}{x:List Nat}{v:V}(h:rdO k st=some (.sd es))(hl:lkS x es=some v):getI SR (.ref k) (.str x) st=some (v,st):=by
 unfold getI getV getOV
 dsimp only
 rw[show rdV SR (.ref k) st=some (.sd es)from h]
 dsimp only[getO]
 rw[hl]
theorem r_ssd{st:St}{k:Nat}{es:List (List Nat×V)}{x:List Nat}{v:V}(h:lk k st.H=some (.sd es))(hn:Nat.ble es.length 1000=true):setI (.ref k) (.str x) v st=some ((),{st with H:=up k (.sd (upS x v es)) st.H}):=by
 unfold setI
 dsimp only
 rw[h]
 dsimp only[setO]
 rw[hn]
theorem fm_nn{a b:Int}(hb:0<b):0≤Int.fmod a b:=Int.fmod_nonneg_of_pos a hb
theorem fm_lt{a b:Int}(hb:0<b):Int.fmod a b<b:=Int.fmod_lt_of_pos a hb
theorem sm_of{a b:Int}(h1:0≤a)(h2:a<b)(hb:b≤2147483647):smallB a=true:=smallB_of (by lia) (by lia)
noncomputable def dr_tail(X:XP):Loc→M (Loc×Fl):=(sq (asg (binE (binE (binE (gt 2) (cst (.int 2147483629)) (modI)) (cst (.int 40692)) (mulI)) (cst (.int 2147483647)) (modI)) (st' 2)) (sq (asg (binE (binE (binE (gt 2) (gt 2) (mulI)) (cst (.int 11621)) (addI)) (cst (.int 2147483587)) (modI)) (st' 2)) (sq (rtn (binE (binE (binE (binE (gt 2) (cst (.int 39373)) (mulI)) (cst (.int 2147483579)) (modI)) (cst (.int 64)) (divI)) (gt 1) (modI))) nextS)))
theorem tail_run{X:XP}{l:Loc}{st:St}{x b:Int}(h2:lk 2 l=some (.int x))(h1:lk 1 l=some (.int b))(hb:0<b)(hb2:b≤100000):∃l2 r,dr_tail X l st=some ((l2,.ret (.int r)),st)∧0≤r∧r<b:=by
 have p1:posB 2147483629=true:=posB_of (by decide) (by decide)
 have p2:posB 2147483647=true:=posB_of (by decide) (by decide)
 have p3:posB 2147483587=true:=posB_of (by decide) (by decide)
 have p4:posB 2147483579=true:=posB_of (by decide) (by decide)
 have p5:posB 64=true:=posB_of (by decide) (by decide)
 have p6:posB b=true:=posB_of hb (by lia)
 have z1:=fm_nn (a:=x) (b:=2147483629) (by decide)
 have z2:=fm_lt (a:=x) (b:=2147483629) (by decide)
 have a1:asg (binE (binE (binE (gt 2) (cst (.int 2147483629)) (modI)) (cst (.int 40692)) (mulI)) (cst (.int 2147483647)) (modI)) (st' 2) l st=some ((up 2 (.int (Int.fmod (Int.fmod x 2147483629 * 40692) 2147483647)) l,.next),st):=
  r_asgN (r_bin (r_bin (r_bin (r_gt h2) r_cst (r_mod p1)) r_cst (r_mul (sm_of z1 z2 (by decide)))) r_cst (r_mod p2))
 have y1:=fm_nn (a:=Int.fmod x 2147483629 * 40692) (b:=2147483647) (by decide)
 have y2:=fm_lt (a:=Int.fmod x 2147483629 * 40692) (b:=2147483647) (by decide)
 generalize Int.fmod (Int.fmod x 2147483629 * 40692) 2147483647=y at a1 y1 y2
 have a2:asg (binE (binE (binE (gt 2) (gt 2) (mulI)) (cst (.int 11621)) (addI)) (cst (.int 2147483587)) (modI)) (st' 2) (up 2 (.int y) l) st=some ((up 2 (.int (Int.fmod (y * y+11621) 2147483587)) (up 2 (.int y) l),.next),st):=
  r_asgN (r_bin (r_bin (r_bin (r_gt (lk_same _ _ _)) (r_gt (lk_same _ _ _)) (r_mul (sm_of y1 y2 (by decide)))) r_cst r_add) r_cst (r_mod p3))
 have x1:=fm_nn (a:=y * y+11621) (b:=2147483587) (by decide)
 have x2:=fm_lt (a:=y * y+11621) (b:=2147483587) (by decide)
 generalize Int.fmod (y * y+11621) 2147483587=q at a2 x1 x2
 have g1:lk 1 (up 2 (.int q) (up 2 (.int y) l))=some (.int b):=lk_other rfl (lk_other rfl h1)
 exact I23 _ _ (r_sq a1 (r_sq a2 (r_sq_r (r_rtn (r_bin (r_bin (r_bin (r_bin (r_gt (lk_same _ _ _)) r_cst (r_mul (sm_of x1 x2 (by decide)))) r_cst (r_mod p4)) r_cst (r_div p5)) (r_gt g1) (r_mod p6)))))) (fm_nn hb) (fm_lt hb)
section
variable{X:XP}{st:St}{kd kc T:Nat}{b:Int}
theorem draw_run(D:Dk st kd kc T)(hT:T≤1000)(hb:0<b)(hb2:b≤100000):∃st2 r,f_law_draw X [.ref kd,.int b] st=some (.int r,st2)∧0≤r∧r<b∧Dk st2 kd kc (T+1)∧Ext (λj=>j=kd∨j=kc) st st2:=by
 refine E37 D.ex λcs m t e1 e2 m1 m2 t1 t2 nc=>?_
 have a1:asg (binE (binE (gt 0) (cst (.str [116,117,114,110])) (getI X.SR)) (cst (.int 1)) (addI)) (subA (gt 0) (cst (.str [116,117,114,110]))) [(0,.ref kd),(1,.int b)] st=some (([(0,.ref kd),(1,.int b)],.next),{st with H:=up kd (dkO kc m (t+1)) st.H}):=
  r_asg (r_bin (r_bin (r_gt rfl) r_cst (r_gsd (rdO_H e1) rfl)) r_cst r_add) (bnd (r_gt rfl) (bnd r_cst (bnd (r_ssd e1 rfl) rfl)))
 have X1:Ext (λj=>j=kd∨j=kc) st {st with H:=up kd (dkO kc m (t+1)) st.H}:=.up _ (.inl rfl)
 have d1:lk kd {st with H:=up kd (dkO kc m (t+1)) st.H}.H=some (dkO kc m (t+1)):=lk_sameH _ _ _
 have c1:lk kc {st with H:=up kd (dkO kc m (t+1)) st.H}.H=some (.list (zV cs)):=lk_other (beq_ne_false D.ne.symm) e2
 generalize hs1:({st with H:=up kd (dkO kc m (t+1)) st.H}:St)=s1 at a1 X1 d1 c1
 have n1:st.n=s1.n:=by rw[←hs1]
 clear hs1
 generalize hu:t+1=u at d1
 have u1:0≤u:=by lia
 have u2:u≤((T+1:Nat):Int):=by lia
 have gu:∀ {l:Loc},lk 0 l=some (.ref kd)→binE (gt 0) (cst (.str [116,117,114,110])) (getI X.SR) l s1=some (.int u,s1):=λh=>r_bin (r_gt h) r_cst (r_gsd (rdO_H d1) rfl)
 have gm:∀ {l:Loc},lk 0 l=some (.ref kd)→binE (gt 0) (cst (.str [109,105,120,101,100])) (getI X.SR) l s1=some (.int m,s1):=λh=>r_bin (r_gt h) r_cst (r_gsd (rdO_H d1) rfl)
 have a2:asg (binE (binE (gt 0) (cst (.str [109,105,120,101,100])) (getI X.SR)) (binE (binE (cst (.int 65521)) (binE (gt 0) (cst (.str [116,117,114,110])) (getI X.SR)) (mulI)) (binE (gt 0) (cst (.str [116,117,114,110])) (getI X.SR)) (mulI)) (addI)) (st' 2) [(0,.ref kd),(1,.int b)] s1=some (([(0,.ref kd),(1,.int b),(2,.int (m+65521 * u * u))],.next),s1):=
  r_asgN (r_bin (gm rfl) (r_bin (r_bin r_cst (gu rfl) (r_mul (smallB_of (by decide) (by decide)))) (gu rfl) (r_mul (smallB_of (by lia) (by lia)))) r_add)
 generalize m+65521 * u * u=fig at a2
 have X2:Ext (λj=>j=kd∨j=kc) st (s1.add (.list (zV []))):=X1.trans (.add _)
 have d2:lk kd (s1.add (.list (zV []))).H=some (dkO kc m u):=(lkH_old (n1▸D.ld)).trans d1
 have c2:lk kc (s1.add (.list (zV []))).H=some (.list (zV cs)):=(lkH_old (n1▸D.lc)).trans c1
 have t3:∀q,(!decide (cs=[]))=q→tst X.SR (binE (binE (gt 0) (cst (.str [99,101,108,108,115])) (getI X.SR)) (lstE esN) (eqM X.SR true)) [(0,.ref kd),(1,.int b),(2,.int fig)] s1=some (q,s1.add (.list (zV []))):=λq hq=>
  r_tst (r_bin (r_bin (r_gt rfl) r_cst (r_gsd (rdO_H d1) rfl)) (r_lst1 (vs:=zV []) r_esN (Nat.zero_le _)) (r_eqT (r_cmpL (rdO_H c2) (rdO_H (lkH_new _ _))))) (r_tb hq)
 have ld2:kd<(s1.add (.list (zV []))).n:=Nat.lt_succ_of_lt (n1▸D.ld)
 have lc2:kc<(s1.add (.list (zV []))).n:=Nat.lt_succ_of_lt (n1▸D.lc)
 generalize s1.add (.list (zV []))=s2 at X2 d2 c2 t3 ld2 lc2
 clear hT t1 t2 X1 c1 n1 hu d1 gu gm;rcases hc:cs.getLast? with _|cell
 ·have ec:cs=[]:=List.getLast?_eq_none_iff.mp hc
  refine E23 (tail_run (X:=X) (l:=[(0,.ref kd),(1,.int b),(2,.int fig)]) (st:=s2) rfl rfl hb hb2) λl2 r r1 r2 r3=>?_
  exact I25 s2 r (r_fn rfl (r_sq a1 (r_sq a2 (r_sq (r_iff_f (t3 false (by rw[decide_eq_true ec];rfl)) r_nextS) r1)))) r2 r3 ⟨⟨cs,m,u,d2,c2,m1,m2,u1,u2,nc⟩,ld2,lc2,D.ne⟩ X2
 ·have ec:cs≠[]:=by intro e;rw[e]at hc;exact nos hc
  have hz:(zV cs).getLast? =some (.int cell):=by rw[List.getLast?_map,hc];rfl
  have hd:(zV cs).dropLast=zV cs.dropLast:=by rw[zV,zV,List.map_dropLast]
  have nd:cs.dropLast.length+1≤16:=by
   rw[List.length_dropLast]
   have:=List.length_pos_iff.mpr ec
   lia
  have gc:∀ {l:Loc} {s:St},lk 0 l=some (.ref kd)→lk kd s.H=some (dkO kc m u)→binE (gt 0) (cst (.str [99,101,108,108,115])) (getI X.SR) l s=some (.ref kc,s):=λh h'=>r_bin (r_gt h) r_cst (r_gsd (rdO_H h') rfl)
  have hpop:popL kc s2=some (.int cell,{s2 with H:=up kc (.list (zV cs.dropLast)) s2.H}):=by
   unfold popL
   rw[c2]
   dsimp only
   rw[hz]
   dsimp only
   rw[ble_of (by rw[zV_len];lia),hd]
  have X3:Ext (λj=>j=kd∨j=kc) st {s2 with H:=up kc (.list (zV cs.dropLast)) s2.H}:=X2.trans (.up _ (.inr rfl))
  have d3:lk kd {s2 with H:=up kc (.list (zV cs.dropLast)) s2.H}.H=some (dkO kc m u):=lk_other (beq_ne_false D.ne) d2
  have c3:lk kc {s2 with H:=up kc (.list (zV cs.dropLast)) s2.H}.H=some (.list (zV cs.dropLast)):=lk_sameH _ _ _
  have a3:asg (methB X.SR 1 (binE (gt 0) (cst (.str [99,101,108,108,115])) (getI X.SR)) esN popB) (st' 3) [(0,.ref kd),(1,.int b),(2,.int fig)] s2=some (([(0,.ref kd),(1,.int b),(2,.int fig),(3,.int cell)],.next),{s2 with H:=up kc (.list (zV cs.dropLast)) s2.H}):=
   r_asgN (r_methB (gc rfl d2) (rdO_H c2) rfl r_esN hpop)
  have ld3:kd<({s2 with H:=up kc (.list (zV cs.dropLast)) s2.H}:St).n:=ld2
  have lc3:kc<({s2 with H:=up kc (.list (zV cs.dropLast)) s2.H}:St).n:=lc2
  generalize ({s2 with H:=up kc (.list (zV cs.dropLast)) s2.H}:St)=s3 at X3 d3 c3 a3 ld3 lc3
  have t4:∀q,decide (1000000≤cell)=q→tst X.SR (binE (gt 3) (cst (.int 1000000)) (cmpI λa b=>decide (b≤a))) [(0,.ref kd),(1,.int b),(2,.int fig),(3,.int cell)] s3=some (q,s3):=λq hq=>r_tst (r_bin (r_gt rfl) r_cst r_cmp) (r_tb hq)
  have p6:posB b=true:=posB_of hb (by lia)
  by_cases hcell:1000000≤cell
  ·have e1:=r_doE (l:=[(0,V.ref kd),(1,V.int b),(2,V.int fig),(3,V.int cell)]) (r_methB (SR:=X.SR) (t:=1) (gc (l:=[(0,V.ref kd),(1,V.int b),(2,V.int fig),(3,V.int cell)]) rfl d3) (rdO_H c3) rfl (r_esC (r_bin (r_gt (i:=3) rfl) (r_gt (i:=1) rfl) (r_div p6)) r_esN) (r_appBZ c3 (by lia)))
   have e2:rtn (binE (gt 3) (gt 1) (modI)) [(0,V.ref kd),(1,V.int b),(2,V.int fig),(3,V.int cell)] {s3 with H:=up kc (.list (zV (cs.dropLast++[Int.fdiv cell b]))) s3.H}= _:=r_rtn (r_bin (r_gt rfl) (r_gt rfl) (r_mod p6))
   have e3:=r_sq a3 (r_sq_r (g:=(sq (asg (binE (gt 2) (binE (gt 3) (cst (.int 2147483563)) (modI)) (addI)) (st' 2)) nextS)) (r_iff_t (g:=nextS) (t4 true (decide_eq_true hcell)) (r_sq e1 (r_sq_r (g:=nextS) e2))))
   exact I25 _ (Int.fmod cell b) (r_fn rfl (r_sq a1 (r_sq a2 (r_sq_r (r_iff_t (t3 true (by rw[decide_eq_false ec];rfl)) e3))))) (fm_nn hb) (fm_lt hb) ⟨⟨_,m,u,lk_other (beq_ne_false D.ne) d3,lk_sameH _ _ _,m1,m2,u1,u2,by rw[List.length_append];exact nd⟩,ld3,lc3,D.ne⟩ (X3.trans (.up _ (.inr rfl)))
  ·have p7:posB 2147483563=true:=posB_of (by decide) (by decide)
   have a4:asg (binE (gt 2) (binE (gt 3) (cst (.int 2147483563)) (modI)) (addI)) (st' 2) [(0,.ref kd),(1,.int b),(2,.int fig),(3,.int cell)] s3=some (([(0,.ref kd),(1,.int b),(2,.int (fig+Int.fmod cell 2147483563)),(3,.int cell)],.next),s3):=r_asgN (r_bin (r_gt rfl) (r_bin (r_gt rfl) r_cst (r_mod p7)) r_add)
   generalize fig+Int.fmod cell 2147483563=fig2 at a4
   refine E23 (tail_run (X:=X) (l:=[(0,.ref kd),(1,.int b),(2,.int fig2),(3,.int cell)]) (st:=s3) rfl rfl hb hb2) λl2 r r1 r2 r3=>?_
   exact I25 s3 r (r_fn rfl (r_sq a1 (r_sq a2 (r_sq (r_iff_t (t3 true (by rw[decide_eq_false ec];rfl)) (r_sq a3 (r_sq (r_iff_f (t4 false (decide_eq_false hcell)) r_nextS) (r_sq a4 r_nextS)))) r1)))) r2 r3 ⟨⟨cs.dropLast,m,u,d3,c3,m1,m2,u1,u2,by lia⟩,ld3,lc3,D.ne⟩ X3
theorem pick_run(D:Dk st kd kc T)(hT:T≤1000){v:V}{xs:List V}(hlen:lenB X.SR [v] st=some (.int xs.length,st))(hx:∀s r,(0:Int)≤r→r<xs.length→Ext (λj=>j=kd∨j=kc) st s→∃x,xs[r.toNat]? =some x∧getI X.SR v (.int r) s=some (x,s))(hp:0<xs.length)(hn:xs.length≤1000):
 ∃st2 i x,i<xs.length∧xs[i]? =some x∧f_law_pick X [.ref kd,v] st=some (x,st2)∧Dk st2 kd kc (T+1)∧Ext (λj=>j=kd∨j=kc) st st2:=by
 refine bc λhno=>?_;refine E25 (draw_run (X:=X) D hT (b:=(xs.length:Int)) (by lia) (by lia)) λst2 r r1 r2 r3 r4 r5=>?_
 clear D hT hp hn;refine E12 (hx st2 r r2 r3 r5) λx x1 x2=>?_
 refine hno ?_;exact I35 st2 r.toNat x (by lia) x1 (r_fn rfl (r_sq_r (r_rtn (r_bin (r_gt rfl) (r_call (r_esC (r_gt rfl) (r_esC (r_call (r_esC (r_gt rfl) r_esN) hlen) r_esN)) r1) x2)))) r4 r5
end
noncomputable def RD1:List (Nat×AO):=[(0,.inst 368 1),
 (1,.ns [([100,101,102,97,117,108,116,115],.ref 2),([109,97,112,115],.ref 3),([112,114,111,112,101,114,116,105,101,115],.ref 4),([119,111,114,100,115],.ref 5)]),
 (2,.sd [([103,99],.str [67,110]),([99,99,99],.int 0),([98,99],.str [76]),([108,98],.str [88,88]),([101,97],.str [78]),([115,99],.str [90,122,122,122]),([106,116],.str [85]),([105,110,99,98],.str [78,111,110,101]),([103,99,98],.str [79,116,104,101,114]),([119,98],.str [79,116,104,101,114]),([115,98],.str [79,116,104,101,114]),([101,120],.bool false),([115,100],.bool false),([99,97,115,101,100],.bool false),([99,105],.bool false),([101,112],.bool false),([100,105],.bool false),([105,100,115],.bool false),([105,100,99],.bool false),([120,105,100,115],.bool false),([120,105,100,99],.bool false),([112,97,116,95,115,121,110],.bool false),([112,97,116,95,119,115],.bool false),([105,100,115,116],.bool false),([100,109],.none),([117,99],.none),([108,99],.none),([116,99],.none),([99,102],.none),([98,109],.none),([98,112,98],.none),([115,99,120],.none),([110,116],.none),([110,118],.none),([110,97,109,101],.none),([99,111,110,102],.none),([110,102,107,99,95,99,102],.none),([115,117,99],.tup []),([115,108,99],.tup []),([115,116,99],.tup []),([97,108,105,97,115],.tup []),([105,100,110,97],.tup [.str [100,105,115,97,108,108,111,119,101,100],.tup []])]),
 (3,.sd [([100,109],.ref 6),([99,99,99],.ref 10)]),
 (4,.sd []),
 (5,.sd []),
 (6,.inst 312 7),
 (7,.ns [([100,101,102,97,117,108,116],.none),([115,116,97,114,116,115],.ref 8),([118,97,108,117,101,115],.ref 9)]),
 (8,.list [.int 0,.int 192,.int 193,.int 194,.int 195,.int 7840,.int 7841,.int 7846,.int 7847,.int 64257,.int 64258]),
 (9,.list [.none,.tup [.str [],.tup [.int 65,.int 768]],.none,.tup [.str [],.tup [.int 65,.int 770]],.none,.tup [.str [],.tup [.int 65,.int 803]],.none,.tup [.str [],.tup [.int 194,.int 768]],.none,.tup [.str [99,111,109,112,97,116],.tup [.int 102,.int 105]],.none]),
 (10,.inst 312 11),
 (11,.ns [([100,101,102,97,117,108,116],.int 0),([115,116,97,114,116,115],.ref 12),([118,97,108,117,101,115],.ref 13)]),
 (12,.list [.int 0,.int 768,.int 769,.int 770,.int 771,.int 803,.int 804,.int 837,.int 838]),
 (13,.list [.int 0,.int 230,.int 0,.int 230,.int 0,.int 220,.int 0,.int 240,.int 0])]
noncomputable def X1:XP:=⟨SR0,RD1,14,none⟩
theorem all_nil{P:Int→Prop}:∀c∈([]:List Int),P c:=λc h=>nomatch h
theorem all_cons{P:Int→Prop}{a:Int}{l:List Int}(h:P a)(h2:∀c∈l,P c):∀c∈a::l,P c:=λc hc=>by
 rcases List.mem_cons.mp hc with e|e
 ·rw[e];exact h
 ·exact h2 c e
set_option maxRecDepth 100000 in
theorem ccc1:∀c∈FA',∀st,pureM X1.RD X1.B (f_Data_get X1) [.ref 0,.str [99,99,99],.int c] st=some (.int (cls c),st):=by
 unfold FA'
 iterate 13 refine all_cons (λst=>by kernel_rfl) ?_
 exact all_nil
set_option maxRecDepth 100000 in
theorem exp1(w:Bool):∀c∈menu,∀st,pureM X1.RD X1.B (f_form_expanded X1) [.int c,.ref 0,.bool w] st=some (.ref st.n,st.add (.list (zV (ap w c)))):=by
 unfold menu
 cases w
 ·iterate 11 refine all_cons (λst=>by kernel_rfl) ?_
  exact all_nil
 ·iterate 11 refine all_cons (λst=>by kernel_rfl) ?_
  exact all_nil
set_option maxRecDepth 100000 in
theorem hap1:∀c∈menu,∀w st,pureM X1.RD X1.B (f_law_apart X1 9) [.int c,.bool w] st=some (.ref st.n,st.add (.list (zV (ap w c)))):=by
 unfold menu
 iterate 11 refine all_cons (λw st=>by cases w <;> kernel_rfl) ?_
 exact all_nil
noncomputable def wNfd:List Nat:=[110,102,100]
noncomputable def wNfc:List Nat:=[110,102,99]
noncomputable def wNfkd:List Nat:=[110,102,107,100]
noncomputable def wNfkc:List Nat:=[110,102,107,99]
theorem wd_nfd{X:XP}(h:X.SR=SR0):WD X wNfd false false:=⟨⟨[100],λst=>by kernel_rfl,λst=>by kernel_rfl⟩,⟨[100],λst=>by kernel_rfl,λst=>by kernel_rfl⟩⟩
theorem wd_nfc{X:XP}(h:X.SR=SR0):WD X wNfc false true:=⟨⟨[99],λst=>by kernel_rfl,λst=>by kernel_rfl⟩,⟨[99],λst=>by kernel_rfl,λst=>by kernel_rfl⟩⟩
theorem wd_nfkd{X:XP}(h:X.SR=SR0):WD X wNfkd true false:=⟨⟨[107],λst=>by kernel_rfl,λst=>by kernel_rfl⟩,⟨[100],λst=>by kernel_rfl,λst=>by kernel_rfl⟩⟩
theorem wd_nfkc{X:XP}(h:X.SR=SR0):WD X wNfkc true true:=⟨⟨[107],λst=>by kernel_rfl,λst=>by kernel_rfl⟩,⟨[99],λst=>by kernel_rfl,λst=>by kernel_rfl⟩⟩
set_option maxRecDepth 100000 in
theorem hst1{wd:List Nat}(hw:wd=wNfd∨wd=wNfkd):∀c∈menu,∀st,pureM X1.RD X1.B (f_is_stable_ahead X1) [.int c,.ref 0,.str wd,.none] st=some (.bool (decide (cls c=0)),st):=by
 unfold menu
 rcases hw with rfl|rfl
 ·iterate 11 refine all_cons (λst=>by kernel_rfl) ?_
  exact all_nil
 ·iterate 11 refine all_cons (λst=>by kernel_rfl) ?_
  exact all_nil
theorem dat1:InstA X1 368 [103,101,116] (.ref 0):=⟨0,1,_,rfl,by decide,by decide,rfl,rfl,rfl⟩
theorem gr_nfd:Gr X1 .none wNfd false false:=⟨rfl,dat1,by kernel_rfl,nofun,by kernel_rfl,nofun,ccc1,exp1 false,nofun,λst=>by kernel_rfl,λst=>by kernel_rfl⟩
theorem gr_nfkd:Gr X1 .none wNfkd true false:=⟨rfl,dat1,by kernel_rfl,nofun,by kernel_rfl,nofun,ccc1,exp1 true,nofun,λst=>by kernel_rfl,λst=>by kernel_rfl⟩
noncomputable def RD2:List (Nat×AO):=[(14,.inst 182 15),(15,.ns [([112,97,105,114,115],.ref 16),([115,101,99,111,110,100,115],.ref 17)]),
 (16,.td [([65,768],.int 192),([65,770],.int 194),([65,803],.int 7840),([194,768],.int 7846)]),
 (17,.idt [(768,.bool true),(770,.bool true),(803,.bool true)])]++RD1
noncomputable def X2:XP:=⟨SR0,RD2,18,none⟩
set_option maxRecDepth 100000 in
theorem ccc2:∀c∈FA',∀st,pureM X2.RD X2.B (f_Data_get X2) [.ref 0,.str [99,99,99],.int c] st=some (.int (cls c),st):=by
 unfold FA'
 iterate 13 refine all_cons (λst=>by kernel_rfl) ?_
 exact all_nil
set_option maxRecDepth 100000 in
theorem exp2(w:Bool):∀c∈menu,∀st,pureM X2.RD X2.B (f_form_expanded X2) [.int c,.ref 0,.bool w] st=some (.ref st.n,st.add (.list (zV (ap w c)))):=by
 unfold menu
 cases w
 ·iterate 11 refine all_cons (λst=>by kernel_rfl) ?_
  exact all_nil
 ·iterate 11 refine all_cons (λst=>by kernel_rfl) ?_
  exact all_nil
set_option maxRecDepth 100000 in
theorem hst2{wd:List Nat}(hw:wd=wNfc∨wd=wNfkc):∀c∈menu,∀st,pureM X2.RD X2.B (f_is_stable_ahead X2) [.int c,.ref 0,.str wd,.ref 14] st=some (.bool (decide (cls c=0)),st):=by
 unfold menu
 rcases hw with rfl|rfl
 ·iterate 11 refine all_cons (λst=>by kernel_rfl) ?_
  exact all_nil
 ·iterate 11 refine all_cons (λst=>by kernel_rfl) ?_
  exact all_nil
noncomputable def vIs(a b:V):Bool:=match b with
 |.none=>(match a with
  |.none=>true
  |_=>false)
 |.int i=>(match a with
  |.int j=>decide (j=i)
  |_=>false)
 |_=>false
theorem vIs_eq{a b:V}(h:vIs a b=true):a=b∧∀B,V.clo B a=true:=by
 cases b with
 |none=>cases a with
  |none=>exact⟨rfl,λB=>rfl⟩
  |_=>exact nft h
 |int i=>cases a with
  |int j=>exact⟨congrArg _ (of_decide_eq_true h),λB=>rfl⟩
  |_=>exact nft h
 |_=>exact nft h
noncomputable def pairV(x c:Int):V:=match mk x c with
 | []=>.none
 |v::_=>.int v
noncomputable def pairB(x c:Int):Bool:=match f_Composer_pair X2 [.ref 14,.int x,.int c] ⟨[],RD2,21⟩ with
 |some (v,_)=>vIs v (pairV x c)
 |none=>false
set_option maxRecDepth 100000 in
theorem pair_all:(FA'.all λx=>DA.all λc=>pairB x c)=true:=by kernel_rfl
theorem pair2:∀x∈FA',∀c∈DA,∀st,pureM X2.RD X2.B (f_Composer_pair X2) [.ref 14,.int x,.int c] st=some (match mk x c with| []=>.none|v::_=>.int v,st):=by
 intro x hx c hc st
 have h:=List.all_eq_true.mp (List.all_eq_true.mp pair_all x hx) c hc
 unfold pairB at h
 refine bc λhno=>?_;cases e:f_Composer_pair X2 [.ref 14,.int x,.int c] ⟨[],RD2,21⟩ with
 |none=>rw[e]at h;exact nft h
 |some p=>
  obtain⟨v,st1⟩:=p
  rw[e]at h
  refine E02 (vIs_eq h) λh1 h2=>?_
  have:=r_pureV (B:=X2.B) (RD:=X2.RD) (g:=f_Composer_pair X2) (args:=[.ref 14,.int x,.int c]) (vs:=[.ref 14,.int x,.int c]) (ex:=[]) (st:=st) (st1:=st1) (v:=v) (canon_clo (by kernel_rfl) (canon_clo rfl (canon_clo rfl rfl))) e (h2 _)
  refine hno ?_;rw[this,h1]
  rfl
theorem dat2:InstA X2 368 [103,101,116] (.ref 0):=⟨0,1,_,rfl,by decide,by decide,rfl,rfl,rfl⟩
theorem cmp2:InstA X2 182 [112,97,105,114] (.ref 14):=⟨14,15,_,rfl,by decide,by decide,rfl,rfl,rfl⟩
theorem gr_nfc:Gr X2 (.ref 14) wNfc false true:=⟨rfl,dat2,by kernel_rfl,λ_=>cmp2,by kernel_rfl,λ_=>rfl,ccc2,exp2 false,λ_=>pair2,λst=>by kernel_rfl,λst=>by kernel_rfl⟩
theorem gr_nfkc:Gr X2 (.ref 14) wNfkc true true:=⟨rfl,dat2,by kernel_rfl,λ_=>cmp2,by kernel_rfl,λ_=>rfl,ccc2,exp2 true,λ_=>pair2,λst=>by kernel_rfl,λst=>by kernel_rfl⟩
theorem pre_app:∀(b z:List Int),pre b (b++z)=true
 | [],_=>rfl
 |y::ys,z=>by rw[List.cons_append,preC,if_pos rfl];exact pre_app ys z
theorem saB_ok(a b z:List Int):saB (a++(b++z)) b a.length=true:=by
 unfold saB
 rw[Bool.and_eq_true]
 refine⟨decide_eq_true (by simp),?_⟩
 rw[List.drop_left];exact pre_app b z
theorem cpl_app:∀(a z:List Int),cpl a (a++z)=a.length
 | [],_=>rfl
 |y::ys,z=>by rw[List.cons_append,cplC,if_pos rfl,cpl_app ys z];rfl
theorem r_cpy{SR:List (Nat×AO)}{k:Nat}{xs:List V}{st:St}(h:rdO k st=some (.list xs))(hn:xs.length≤100000):listB SR [.ref k] st=some (.ref st.n,st.add (.list xs)):=by
 unfold listB
 dsimp only
 unfold cpyL
 rw[r_lsV h]
 dsimp only
 rw[ble_of hn]
theorem r_lenZ{SR:List (Nat×AO)}{k:Nat}{a:List Int}{st:St}(h:rdO k st=some (.list (zV a)))(hn:a.length≤100000):lenB SR [.ref k] st=some (.int a.length,st):=by
 rw[r_len h (ble_of (by rw[zV_len];lia)),zV_len]
section
variable{X:XP}{cv:V}{wd:List Nat}{w cm:Bool}
theorem canon2{st:St}{k1 k2:Nat}{a b:List Int}(h1:rdO k1 st=some (.list (zV a)))(h2:rdO k2 st=some (.list (zV b)))(b1:X.B≤k1)(b2:X.B≤k2){r vs:List V}{ex:List (Nat×AO)}(h:canon X.B st 2 r=some (vs,ex)):canon X.B st 0 (.ref k1:: .ref k2::r)=some (.ref (X.B+0):: .ref (X.B+1)::vs,(X.B+0,.list (zV a))::(X.B+1,.list (zV b))::ex):=
 canon_list b1 h1 (clos_zV _) (canon_list b2 h2 (clos_zV _) h)
theorem rd_1{B n:Nat}{o:AO}{r:List (Nat×AO)}:rdO (B+0) ⟨[],(B+0,o)::r,n⟩=some o:=rdO_F rfl (lk_head _ _ _)
theorem rd_2{B n:Nat}{o o':AO}{r:List (Nat×AO)}:rdO (B+1) ⟨[],(B+0,o')::(B+1,o)::r,n⟩=some o:=rdO_F rfl ((lk_tail _ _ (by lia)).trans (lk_head _ _ _))
theorem cp_pure{st:St}{k1 k2:Nat}{a b:List Int}(h1:rdO k1 st=some (.list (zV a)))(h2:rdO k2 st=some (.list (zV b)))(b1:X.B≤k1)(b2:X.B≤k2)(n1:a.length≤500)(n2:b.length≤500):pureM X.RD X.B (f_common_prefix X) [.ref k1,.ref k2] st=some (.int (cpl a b),st):=
 r_pureV (canon2 h1 h2 b1 b2 rfl) (cp_run rd_1 rd_2 n1 n2) rfl
theorem sa_pure{st:St}{k1 k2:Nat}{a b:List Int}{n:Nat}(h1:rdO k1 st=some (.list (zV a)))(h2:rdO k2 st=some (.list (zV b)))(b1:X.B≤k1)(b2:X.B≤k2)(n1:a.length≤500)(n2:b.length≤500):pureM X.RD X.B (f_starts_at X) [.ref k1,.ref k2,.int n] st=some (.bool (saB a b n),st):=
 r_pureV (canon2 h1 h2 b1 b2 (canon_clo rfl rfl)) (sa_run rd_1 rd_2 n1 n2) rfl
structure LS (X:XP) (cv:V) (wd:List Nat) (l:Loc) (st:St) (ks kdS kh kdu kto:Nat) (acc held due:List Int):Prop where
 g7:lk 7 l=some (.ref kdu)
 g8:lk 8 l=some (.ref ks)
 g9:lk 9 l=some (.ref kto)
 S:Str X cv wd st ks kdS kh held
 due:rdO kdu st=some (.list (zV due))
 ldu:kdu<st.n
 du1:kdu≠kdS
 du2:kdu≠kh
 bdu:X.B≤kdu
 told:rdO kto st=some (.list (zV acc))
 lto:kto<st.n
 to1:kto≠kdS
 to2:kto≠kh
 bto:X.B≤kto
 hB:X.B≤st.n
noncomputable def l5_body(X:XP):Loc→M (Loc×Fl):=(sq (asg (callE (esC (Mine.meth 258 [112,117,116,95,97,108,108] (gt 8) (esC (gt 10) esN) (f_FormStream_put_all X)) esN) (listB X.SR)) (st' 11)) (sq (iff' (notT (tst X.SR (callE (esC (gt 7) (esC (gt 11) (esC (callE (esC (gt 9) esN) (lenB X.SR)) esN))) (pureM X.RD X.B (f_starts_at X))))) (sq (rtn (cst (.bool false))) nextS) nextS) (sq (asg (binE (gt 9) (gt 11) (catM X.SR)) (st' 9)) (sq (iff' (orT (tst X.SR (binE (callE (esC (gt 9) (esC (gt 7) esN)) (pureM X.RD X.B (f_common_prefix X))) (callE (esC (gt 9) esN) (lenB X.SR)) (eqM X.SR true))) (orT (tst X.SR (binE (gt 9) (slcE X.SR (gt 7) noP (someP (callE (esC (gt 9) esN) (lenB X.SR)))) (eqM X.SR true))) falseT)) (sq (rtn (cst (.bool false))) nextS) nextS) nextS))))
theorem piece_turn(G:Gr X cv wd w cm)(hcv:notBi cv=true)(hst:∀c∈menu,∀st,pureM X.RD X.B (f_is_stable_ahead X) [.int c,.ref 0,.str wd,cv] st=some (.bool (decide (cls c=0)),st))
 {l:Loc} {st:St} {ks kdS kh kdu kto kp:Nat} {acc held due p piece rest:List Int} (L:LS X cv wd l st ks kdS kh kdu kto acc held due) (hp:rdO kp st=some (.list (zV piece))) (lp:kp<st.n) (p1:kp≠kdS) (p2:kp≠kh)
 (hm:∀c∈piece,c∈menu) (hh:∀c∈held,c∈menu) (I:PI w cm (acc,held) p) (hdue:due=pform w cm (p++piece++rest)) (hn:(p++piece++rest).length≤12):
 ∃l2 st2 kh2 kto2,l5_body X (up 10 (.ref kp) l) st=some ((l2,.next),st2)∧LS X cv wd l2 st2 ks kdS kh2 kdu kto2 (piece.foldl (pallS w cm) (acc,held)).1 (piece.foldl (pallS w cm) (acc,held)).2 due∧(∀i,i≠9→i≠10→i≠11→lk i l2=lk i l)∧Ext (λj=>j=kdS∨j=kh) st st2∧(kh2=kh∨st.n≤kh2):=by
 refine bc λhno=>?_;refine E13 I.cut λdone I1 I2 _=>?_
 have I':=I.fold hm
 have D:=I'.due rest
 have hlen:held.length+piece.length≤20:=by
  have:=congrArg List.length I1
  simp only[List.length_append]at this hn
  lia
 refine E26 (pa_run G hcv hst hm hh p1 p2 L.hB hp lp L.S hlen) λst1 kh2 r1 r2 r3 r4 r5 r6=>?_
 rw[pall_shift]at D I'
 refine hno ?_;rw[pall_shift w cm piece acc held]
 dsimp only at D I' ⊢
 generalize hso:(piece.foldl (pallS w cm) ([],held)).1=some_ at D I' r2 ⊢
 generalize hhe:(piece.foldl (pallS w cm) ([],held)).2=held2 at D I' r4 ⊢
 rw[←hdue]at D
 have dl:due.length≤36:=by
  have:=pform_len w cm (p++piece++rest)
  rw[←hdue]at this;lia
 have dl2:=congrArg List.length D
 simp only[List.length_append]at dl2
 have Y1:Ext (λj=>j=kdS∨j=kh) st st1:=r3
 have Y2:Ext No st1 (st1.add (.list (zV some_))):=.add _
 have Y3:Ext No (st1.add (.list (zV some_))) ((st1.add (.list (zV some_))).add (.list (zV (acc++some_)))):=.add _
 have Y4:Ext No ((st1.add (.list (zV some_))).add (.list (zV (acc++some_)))) (((st1.add (.list (zV some_))).add (.list (zV (acc++some_)))).add (.list (zV (due.take (acc++some_).length)))):=.add _
 have nP:∀ {j},j≠kdS→j≠kh→¬(j=kdS∨j=kh):=λa b q=>by rcases q with q|q;exact a q;exact b q
 have du1:=Y1.rd L.due L.ldu (nP L.du1 L.du2)
 have to1:=Y1.rd L.told L.lto (nP L.to1 L.to2)
 have ldu1:=Nat.lt_of_lt_of_le L.ldu Y1.le
 have lto1:=Nat.lt_of_lt_of_le L.lto Y1.le
 have lk1:st.n<st1.n:=r6
 have du2:=Y2.rd du1 ldu1 λq=>q
 have to2:=Y2.rd to1 lto1 λq=>q
 have du3:=Y3.rd du2 (Nat.lt_succ_of_lt ldu1) λq=>q
 have so2:rdO st1.n (st1.add (.list (zV some_)))=some (.list (zV some_)):=rdO_H (lkH_new _ _)
 have so3:=Y3.rd so2 (Nat.lt_succ_self _) λq=>q
 have to3:rdO (st1.n+1) ((st1.add (.list (zV some_))).add (.list (zV (acc++some_))))=some (.list (zV (acc++some_))):=rdO_H (lkH_new (st1.add _) _)
 have to4:=Y4.rd to3 (Nat.lt_succ_self _) λq=>q
 have S4:=((r4.xt Y2 (λq=>q) (λq=>q) λq=>q).xt Y3 (λq=>q) (λq=>q) λq=>q).xt Y4 (λq=>q) (λq=>q) λq=>q
 generalize hl1:up 11 (.ref st1.n) (up 10 (.ref kp) l)=l1
 have g7:lk 7 l1=some (.ref kdu):=by rw[←hl1];exact lk_other rfl (lk_other rfl L.g7)
 have g8:lk 8 l1=some (.ref ks):=by rw[←hl1];exact lk_other rfl (lk_other rfl L.g8)
 have g9:lk 9 l1=some (.ref kto):=by rw[←hl1];exact lk_other rfl (lk_other rfl L.g9)
 have g11:lk 11 l1=some (.ref st1.n):=by rw[←hl1];exact lk_same _ _ _
 have a1:asg (callE (esC (Mine.meth 258 [112,117,116,95,97,108,108] (gt 8) (esC (gt 10) esN) (f_FormStream_put_all X)) esN) (listB X.SR)) (st' 11) (up 10 (.ref kp) l) st=some ((l1,.next),st1.add (.list (zV some_))):=by
  rw[←hl1]
  exact r_asgN (r_call (r_esC (r_methI (r_gt (lk_other rfl L.g8)) (rdO_H L.S.i) (rdO_H L.S.d) rfl (r_esC (r_gt (lk_same _ _ _)) r_esN) r1) r_esN) (r_cpy (rdO_H r2) (by rw[zV_len];lia)))
 have a2:tst X.SR (callE (esC (gt 7) (esC (gt 11) (esC (callE (esC (gt 9) esN) (lenB X.SR)) esN))) (pureM X.RD X.B (f_starts_at X))) l1 (st1.add (.list (zV some_)))=some (true,st1.add (.list (zV some_))):=by
  have e:saB due some_ acc.length=true:=by rw[D,List.append_assoc];exact saB_ok _ _ _
  rw[←e]
  exact r_tst (r_call (r_esC (r_gt g7) (r_esC (r_gt g11) (r_esC (r_call (r_esC (r_gt g9) r_esN) (r_lenZ to2 (by lia))) r_esN))) (sa_pure du2 so2 L.bdu (Nat.le_trans L.hB Y1.le) (by lia) (by lia))) (r_tb rfl)
 have a3:asg (binE (gt 9) (gt 11) (catM X.SR)) (st' 9) l1 (st1.add (.list (zV some_)))=some ((up 9 (.ref (st1.n+1)) l1,.next),(st1.add (.list (zV some_))).add (.list (zV (acc++some_)))):=
  r_asgN (r_bin (r_gt g9) (r_gt g11) (r_catZ to2 so2 (by lia)))
 have h7:lk 7 (up 9 (.ref (st1.n+1)) l1)=some (.ref kdu):=lk_other rfl g7
 have h9:lk 9 (up 9 (.ref (st1.n+1)) l1)=some (.ref (st1.n+1)):=lk_same _ _ _
 have b9:X.B≤st1.n+1:=Nat.le_succ_of_le (Nat.le_trans L.hB Y1.le)
 have t1:tst X.SR (binE (callE (esC (gt 9) (esC (gt 7) esN)) (pureM X.RD X.B (f_common_prefix X))) (callE (esC (gt 9) esN) (lenB X.SR)) (eqM X.SR true)) (up 9 (.ref (st1.n+1)) l1) ((st1.add (.list (zV some_))).add (.list (zV (acc++some_))))=some (false,(st1.add (.list (zV some_))).add (.list (zV (acc++some_)))):=by
  refine r_tst (r_bin (r_call (r_esC (r_gt h9) (r_esC (r_gt h7) r_esN)) (cp_pure to3 du3 b9 L.bdu (by rw[List.length_append];lia) (by lia))) (r_call (r_esC (r_gt h9) r_esN) (r_lenZ to3 (by rw[List.length_append];lia))) (r_eqT r_eqI)) (r_tb ?_)
  rw[D,cpl_app,decide_eq_true rfl];rfl
 have t2:tst X.SR (binE (gt 9) (slcE X.SR (gt 7) noP (someP (callE (esC (gt 9) esN) (lenB X.SR)))) (eqM X.SR true)) (up 9 (.ref (st1.n+1)) l1) ((st1.add (.list (zV some_))).add (.list (zV (acc++some_))))=some (false,((st1.add (.list (zV some_))).add (.list (zV (acc++some_)))).add (.list (zV (due.take (acc++some_).length)))):=by
  refine r_tst (r_bin (r_gt h9) (r_take (r_gt h7) (r_someP (r_call (r_esC (r_gt h9) r_esN) (r_lenZ to3 (by rw[List.length_append];lia)))) du3 (by lia)) (r_eqT (r_cmpL to4 (rdO_H (lkH_new _ _))))) (r_tb ?_)
  have:due.take (acc++some_).length=acc++some_:=by rw[D];exact List.take_left
  rw[this,decide_eq_true rfl];rfl
 have Y:Ext (λj=>j=kdS∨j=kh) st (((st1.add (.list (zV some_))).add (.list (zV (acc++some_)))).add (.list (zV (due.take (acc++some_).length)))):=((Y1.trans (.add _)).trans (.add _)).trans (.add _)
 have nk:∀ {j},j<st.n→j≠kh→j≠kh2:=λa b=>by rcases r5 with q|q;exact q▸b;lia
 refine I45 (up 9 (.ref (st1.n+1)) l1) _ kh2 (st1.n+1) (r_sq a1 (r_sq (r_iff_f (r_notT a2) r_nextS) (r_sq a3 (r_sq (r_iff_f (r_orT_f t1 (r_orT_f t2 r_falseT)) r_nextS) r_nextS)))) ⟨h7,lk_other rfl g8,h9,S4,Y4.rd du3 (Nat.lt_succ_of_lt (Nat.lt_succ_of_lt ldu1)) λq=>q,Nat.lt_of_lt_of_le L.ldu Y.le,L.du1,nk L.ldu L.du2,L.bdu,to4,Nat.lt_succ_of_lt (Nat.lt_succ_self _),?_,?_,b9,Nat.le_trans L.hB Y.le⟩ (λi h1 h2 h3=>?_) Y r5
 ·have:=r4.ld;lia
 ·have:=r4.lh;lia
 ·rw[←hl1,lk_up,if_neg h1,lk_up,if_neg h3,lk_up,if_neg h2]
end
theorem r_itT{vs:List V}{i:Nat}{st:St}{v:V}(h:vs[i]? =some v):itT vs i st=some (some v):=congrArg some h
theorem r_itT_e{vs:List V}{i:Nat}{st:St}(h:vs[i]? =none):itT vs i st=some none:=congrArg some h
theorem three_cut{α:Type}(a:List α){c0 c1:Nat}(h:c0≤c1):a.take c0++(a.drop c0).take (c1-c0)++a.drop c1=a:=by
 have e:a.take c0++(a.drop c0).take (c1-c0)=a.take c1:=by
  rw[show c1=c0+(c1-c0) by omega,List.take_add,show c0+(c1-c0)-c0=c1-c0 by omega]
 rw[e,List.take_append_drop]
section
variable{X:XP}{cv:V}{wd:List Nat}{w cm:Bool}
theorem LS.xt{l:Loc}{st st2:St}{ks kdS kh kdu kto:Nat}{acc held due:List Int}(L:LS X cv wd l st ks kdS kh kdu kto acc held due)(x:Ext No st st2):LS X cv wd l st2 ks kdS kh kdu kto acc held due:=
 ⟨L.g7,L.g8,L.g9,L.S.xt x (λq=>q) (λq=>q) λq=>q,x.rd L.due L.ldu λq=>q,Nat.lt_of_lt_of_le L.ldu x.le,L.du1,L.du2,L.bdu,x.rd L.told L.lto λq=>q,Nat.lt_of_lt_of_le L.lto x.le,L.to1,L.to2,L.bto,Nat.le_trans L.hB x.le⟩
theorem held_menu{q:List Int×List Int}{p:List Int}(I:PI w cm q p)(hm:∀c∈p,c∈menu):∀c∈q.2,c∈menu:=by
 refine E12 I.cut λdone h _=>?_
 intro c hc
 exact hm c (by rw[h];exact List.mem_append_right _ hc)
theorem law5_run(G:Gr X cv wd w cm)(hcv:notBi cv=true)(hst:∀c∈menu,∀st,pureM X.RD X.B (f_is_stable_ahead X) [.int c,.ref 0,.str wd,cv] st=some (.bool (decide (cls c=0)),st))
 {l:Loc} {st:St} {ks kdS kh kdu kto kt ku c0 c1:Nat} {text:List Int} (L:LS X cv wd l st ks kdS kh kdu kto [] [] (pform w cm text)) (g3:lk 3 l=some (.ref kt)) (g6:lk 6 l=some (.ref ku)) (ht:rdO kt st=some (.list (zV text))) (hu:rdO ku st=some (.list (zV [(c0:Int),(c1:Int)]))) (lt:kt<st.n) (lu:ku<st.n)
 (hm:∀c∈text,c∈menu) (hn:text.length≤12) (hc:c0≤c1) (hc1:c1≤text.length):
 ∃l2 st2 kh2 kto2 q,m_law_5 X l st=some ((l2,.next),st2)∧LS X cv wd l2 st2 ks kdS kh2 kdu kto2 q.1 q.2 (pform w cm text)∧PI w cm q text∧(∀i,i≠9→i≠10→i≠11→lk i l2=lk i l)∧Ext (λj=>j=kdS∨j=kh) st st2∧(kh2=kh∨st.n≤kh2):=by
 refine Classical.byContradiction λhno=>?_
 have Z1:Ext No st (st.add (.list (zV (text.take c0)))):=.add _
 have Z2:Ext No (st.add (.list (zV (text.take c0)))) ((st.add (.list (zV (text.take c0)))).add (.list (zV ((text.drop c0).take (c1-c0))))):=.add _
 have Z3:Ext No ((st.add (.list (zV (text.take c0)))).add (.list (zV ((text.drop c0).take (c1-c0))))) (((st.add (.list (zV (text.take c0)))).add (.list (zV ((text.drop c0).take (c1-c0))))).add (.list (zV (text.drop c1)))):=.add _
 have t1:=Z1.rd ht lt λq=>q
 have u1:=Z1.rd hu lu λq=>q
 have t2:=Z2.rd t1 (Nat.lt_succ_of_lt lt) λq=>q
 have u2:=Z2.rd u1 (Nat.lt_succ_of_lt lu) λq=>q
 have p1:rdO st.n (st.add (.list (zV (text.take c0))))=some (.list (zV (text.take c0))):=rdO_H (lkH_new _ _)
 have p2:rdO (st.n+1) ((st.add (.list (zV (text.take c0)))).add (.list (zV ((text.drop c0).take (c1-c0)))))=some (.list (zV ((text.drop c0).take (c1-c0)))):=rdO_H (lkH_new (st.add _) _)
 have p3:rdO (st.n+2) (((st.add (.list (zV (text.take c0)))).add (.list (zV ((text.drop c0).take (c1-c0))))).add (.list (zV (text.drop c1))))=some (.list (zV (text.drop c1))):=rdO_H (lkH_new ((st.add _).add _) _)
 have q1:=Z3.rd (Z2.rd p1 (Nat.lt_succ_self _) λq=>q) (Nat.lt_succ_of_lt (Nat.lt_succ_self _)) λq=>q
 have q2:=Z3.rd p2 (Nat.lt_succ_self _) λq=>q
 have ix:∀ {s:St} {j:Int} {x:Int},rdO ku s=some (.list (zV [(c0:Int),(c1:Int)]))→ixL (zV [(c0:Int),(c1:Int)]) j=some (.int x)→(binE (gt 6) (cst (.int j)) (getI X.SR)) l s=some (.int x,s):=λh h2=>r_bin (r_gt g6) r_cst (r_ix h h2)
 have x0:ixL (zV [(c0:Int),(c1:Int)]) ((0:Nat):Int)=some (.int c0):=ixL_nat rfl (Nat.le_of_ble_eq_true rfl)
 have x1:ixL (zV [(c0:Int),(c1:Int)]) ((1:Nat):Int)=some (.int c1):=ixL_nat rfl (Nat.le_of_ble_eq_true rfl)
 have s1:slcE X.SR (gt 3) noP (someP (binE (gt 6) (cst (.int 0)) (getI X.SR))) l st=some (.ref st.n,st.add (.list (zV (text.take c0)))):=r_take (r_gt g3) (r_someP (ix hu x0)) ht (by lia)
 have s2:slcE X.SR (gt 3) (someP (binE (gt 6) (cst (.int 0)) (getI X.SR))) (someP (binE (gt 6) (cst (.int 1)) (getI X.SR))) l (st.add (.list (zV (text.take c0))))=some (.ref (st.n+1),(st.add (.list (zV (text.take c0)))).add (.list (zV ((text.drop c0).take (c1-c0))))):=r_mid (r_gt g3) (r_someP (ix u1 x0)) (r_someP (ix u1 x1)) t1 hc hc1 (by lia)
 have s3:slcE X.SR (gt 3) (someP (binE (gt 6) (cst (.int 1)) (getI X.SR))) noP l ((st.add (.list (zV (text.take c0)))).add (.list (zV ((text.drop c0).take (c1-c0)))))=some (.ref (st.n+2),((st.add (.list (zV (text.take c0)))).add (.list (zV ((text.drop c0).take (c1-c0))))).add (.list (zV (text.drop c1)))):=r_drop (r_gt g3) (r_someP (ix u2 x1)) t2 (by lia)
 have L3:=((L.xt Z1).xt Z2).xt Z3
 have q3:=p3
 have cut:=three_cut text hc
 have e3:((st.add (.list (zV (text.take c0)))).add (.list (zV ((text.drop c0).take (c1-c0))))).n=st.n+2:=rfl
 have n3:(((st.add (.list (zV (text.take c0)))).add (.list (zV ((text.drop c0).take (c1-c0))))).add (.list (zV (text.drop c1)))).n=st.n+3:=rfl
 have X3:Ext (λj=>j=kdS∨j=kh) st (((st.add (.list (zV (text.take c0)))).add (.list (zV ((text.drop c0).take (c1-c0))))).add (.list (zV (text.drop c1)))):=((Ext.add _).trans (.add _)).trans (.add _)
 generalize (((st.add (.list (zV (text.take c0)))).add (.list (zV ((text.drop c0).take (c1-c0))))).add (.list (zV (text.drop c1))))=st3 at L3 q1 q2 q3 n3 X3 s3
 have mem1:∀c∈text.take c0,c∈menu:=λc h=>hm c (List.mem_of_mem_take h)
 have mem2:∀c∈(text.drop c0).take (c1-c0),c∈menu:=λc h=>hm c (List.mem_of_mem_drop (List.mem_of_mem_take h))
 have mem3:∀c∈text.drop c1,c∈menu:=λc h=>hm c (List.mem_of_mem_drop h)
 generalize text.take c0=a1 at *
 generalize (text.drop c0).take (c1-c0)=a2 at *
 generalize text.drop c1=a3 at *
 have ld:=L.S.ld
 have lh:=L.S.lh
 have I0:PI w cm ([],[]) []:=⟨[],rfl,(pform_nil w cm).symm,.inl rfl⟩
 obtain⟨l4,st4,kh4,kto4,r4,L4,k4,X4,h4⟩:=piece_turn G hcv hst (kp:=st.n) (p:=[]) (rest:=a2++a3) L3 q1 (by lia) (by lia) (by lia) mem1 (λc h=>by cases h) I0 (by rw[←cut];simp) (by
  have:([]++a1++(a2++a3))=text:=by rw[←cut];simp
  rw[this];exact hn)
 have I4:=I0.fold mem1
 rw[List.nil_append]at I4
 have le4:=X4.le
 have nk4:st.n+1≠kh4:=by rcases h4 with q|q <;> lia
 refine E45 (piece_turn G hcv hst (kp:=st.n+1) (p:=a1) (rest:=a3) L4 (X4.rd q2 (by lia) (by lia)) (by lia) (by lia) nk4 mem2 (held_menu I4 mem1) I4 (by rw[cut]) (by rw[cut];exact hn)) λl5 st5 kh5 kto5 r5 L5 k5 X5 h5=>?_
 have I5:=I4.fold mem2
 have le5:=X5.le
 have nk4':st.n+2≠kh4:=by rcases h4 with q|q <;> lia
 have nk5:st.n+2≠kh5:=by rcases h5 with q|q <;> lia
 have mem12:∀c∈a1++a2,c∈menu:=λc h=>by rcases List.mem_append.mp h with q|q;exact mem1 c q;exact mem2 c q
 refine E45 (piece_turn G hcv hst (kp:=st.n+2) (p:=a1++a2) (rest:=[]) L5 (X5.rd (X4.rd q3 (by lia) (by lia)) (by lia) (by lia)) (by lia) (by lia) nk5 mem3 (held_menu I5 mem12) I5 (by rw[cut,List.append_nil]) (by rw[cut,List.append_nil];exact hn)) λl6 st6 kh6 kto6 r6 L6 k6 X6 h6=>?_
 have I6:=I5.fold mem3
 rw[cut]at I6
 have le6:=X6.le
 refine hno ⟨l6,st6,kh6,kto6,_,r_for (bnd (r_tup (r_esC s1 (r_esC s2 (r_esC s3 r_esN))) rfl) rfl) (r_forStep (r_itT rfl) rfl r4 (r_forStep (r_itT rfl) rfl r5 (r_forStep (r_itT rfl) rfl r6 (r_forEnd (r_itT_e rfl))))),L6,I6,λi h1 h2 h3=>?_,?_,?_⟩
 ·rw[k6 i h1 h2 h3,k5 i h1 h2 h3,k4 i h1 h2 h3]
 ·refine((X3.trans X4).transN X5 (λj hj q=>?_)).transN X6 (λj hj q=>?_)
  ·rcases q with q|q
   ·exact .inl q
   ·rcases h4 with z|z
    ·exact .inr (q.trans z)
    ·lia
  ·rcases q with q|q
   ·exact .inl q
   ·rcases h5 with z|z
    ·rcases h4 with y|y
     ·exact .inr (q.trans (z.trans y))
     ·lia
    ·lia
 ·rcases h4 with q4|q4 <;> rcases h5 with q5|q5 <;> rcases h6 with q6|q6 <;> first|(left;lia)|(right;lia)
theorem law67_run(G:Gr X cv wd w cm)(hcv:notBi cv=true){l:Loc}{st:St}{ks kdS kh kdu kto kt kw:Nat}{text due:List Int}{q:List Int×List Int}(L:LS X cv wd l st ks kdS kh kdu kto q.1 q.2 due)(hdue:due=pform w cm text)(I:PI w cm q text)(g3:lk 3 l=some (.ref kt))(g5:lk 5 l=some (.ref kw))(ht:rdO kt st=some (.list (zV text)))(hw:rdO kw st=some (.list (zV text)))(lt:kt<st.n)(lw:kw<st.n)(t1:kt≠kdS)(w1:kw≠kdS)
 (hm:∀c∈text,c∈menu) (hn:text.length≤12):
 ∃l2 st1 st2,m_law_6 X l st=some ((l2,.next),st1)∧m_law_7 X l2 st1=some ((l2,.next),st2)∧(∀i,i≠12→lk i l2=lk i l)∧Ext (λj=>j=kdS) st st2:=by
 have D:=I.due []
 rw[List.append_nil,List.append_nil,←hdue]at D
 have hh:=held_menu I hm
 have hl:q.2.length≤12:=by
  refine E12 I.cut λdone h _=>?_
  have:=congrArg List.length h
  rw[List.length_append]at this
  lia
 have dl:due.length≤36:=by
  have:=pform_len w cm text
  rw[←hdue]at this;lia
 have dl2:=congrArg List.length D
 rw[List.length_append]at dl2
 refine E15 (fin_run G hcv hh (by lia) L.hB L.S) λs1 f1 f2 f3 f4 f5=>?_
 have a1:m_law_6 X l st=some ((up 12 (.ref s1.n) l,.next),s1.add (.list (zV (pform w cm q.2)))):=r_asgN (r_call (r_esC (r_methI (r_gt L.g8) (rdO_H L.S.i) (rdO_H L.S.d) rfl r_esN f1) r_esN) (r_cpy (rdO_H f2) (by rw[zV_len];lia)))
 have Y1:Ext (λj=>j=kdS) st (s1.add (.list (zV (pform w cm q.2)))):=f4.trans (.add _)
 have hr:rdO s1.n (s1.add (.list (zV (pform w cm q.2))))=some (.list (zV (pform w cm q.2))):=rdO_H (lkH_new _ _)
 have S2:=f3.xt (Ext.add (p:=No) (.list (zV (pform w cm q.2)))) (λq=>q) (λq=>q) λq=>q
 have n2:(s1.add (.list (zV (pform w cm q.2)))).n=s1.n+1:=rfl
 have b2:X.B≤s1.n:=by have:=L.hB;lia
 generalize (s1.add (.list (zV (pform w cm q.2))))=s2 at a1 Y1 hr S2 n2
 have told:=Y1.rd L.told L.lto L.to1
 have dueR:=Y1.rd L.due L.ldu L.du1
 have txt:=Y1.rd ht lt t1
 have was:=Y1.rd hw lw w1
 have le1:=Y1.le
 have Y2:Ext (λj=>j=kdS) st (s2.add (.list (zV due))):=Y1.trans (.add _)
 have Z2:Ext No s2 (s2.add (.list (zV due))):=.add _
 have S3:=S2.xt Z2 (λq=>q) (λq=>q) λq=>q
 have e1:rdO s2.n (s2.add (.list (zV due)))=some (.list (zV due)):=rdO_H (lkH_new _ _)
 have d3:=Z2.rd dueR (Nat.lt_of_lt_of_le L.ldu le1) λq=>q
 have x3:=Z2.rd txt (Nat.lt_of_lt_of_le lt le1) λq=>q
 have w3:=Z2.rd was (Nat.lt_of_lt_of_le lw le1) λq=>q
 have n3:(s2.add (.list (zV due))).n=s2.n+1:=rfl
 generalize hg:(s2.add (.list (zV due)))=s3 at Y2 S3 e1 d3 x3 w3 n3
 have G8:∀i,i≠12→lk i (up 12 (.ref s1.n) l)=lk i l:=λi h=>by rw[lk_up,if_neg h]
 have c1:tst X.SR (binE (binE (gt 9) (gt 12) (catM X.SR)) (gt 7) (eqM X.SR true)) (up 12 (.ref s1.n) l) s2=some (false,s3):=by
  have cat:=r_catZ (SR:=X.SR) told hr (by lia)
  rw[←D,hg]at cat
  refine r_tst (r_bin (r_bin (r_gt ((G8 9 (by decide)).trans L.g9)) (r_gt (lk_same _ _ _)) cat) (r_gt ((G8 7 (by decide)).trans L.g7)) (r_eqT (r_cmpL e1 d3))) (r_tb ?_)
  rw[decide_eq_true rfl];rfl
 refine E15 (fin_run G hcv (held:=[]) (λc h=>by cases h) (Nat.zero_le _) (by lia) S3) λs4 f1' f2' f3' f4' f5'=>?_
 rw[pform_nil]at f2'
 have Y5:Ext (λj=>j=kdS) st ((s4.add (.list (zV []))).add (.list (zV []))):=((Y2.trans f4').trans (.add _)).trans (.add _)
 have Z5:Ext (λj=>j=kdS) s3 ((s4.add (.list (zV []))).add (.list (zV []))):=(f4'.trans (.add _)).trans (.add _)
 have c2:tst X.SR (binE (callE (esC (Mine.meth 258 [102,105,110,105,115,104] (gt 8) esN (f_FormStream_finish X)) esN) (listB X.SR)) (lstE esN) (eqM X.SR true)) (up 12 (.ref s1.n) l) s3=some (false,(s4.add (.list (zV []))).add (.list (zV []))):=by
  refine r_tst (r_bin (r_call (r_esC (r_methI (r_gt ((G8 8 (by decide)).trans L.g8)) (rdO_H S3.i) (rdO_H S3.d) rfl r_esN f1') r_esN) (r_cpy (rdO_H f2') (Nat.zero_le _))) (r_lst1 (vs:=zV []) r_esN (Nat.zero_le _)) (r_eqT (r_cmpL (rdO_H ((lkH_old (Nat.lt_succ_self _)).trans (lkH_new _ _))) (rdO_H (lkH_new (s4.add _) _))))) (r_tb ?_)
  rfl
 have x5:=Z5.rd x3 (by lia) t1
 have w5:=Z5.rd w3 (by lia) w1
 generalize ((s4.add (.list (zV []))).add (.list (zV [])))=s5 at Y5 c2 x5 w5
 have c3:tst X.SR (binE (gt 3) (gt 5) (eqM X.SR true)) (up 12 (.ref s1.n) l) s5=some (false,s5):=by
  refine r_tst (r_bin (r_gt ((G8 3 (by decide)).trans g3)) (r_gt ((G8 5 (by decide)).trans g5)) (r_eqT (r_cmpL x5 w5))) (r_tb ?_)
  rw[decide_eq_true rfl];rfl
 exact I34 _ _ s5 a1 (r_iff_f (r_orT_f c1 (r_orT_f c2 (r_orT_f c3 r_falseT))) r_nextS) G8 Y5
end
theorem cpl_sym:∀a b:List Int,cpl a b=cpl b a
 | [],[]=>rfl
 | [],_::_=>rfl
 |_::_,[]=>rfl
 |x::a,y::b=>by
  rw[cplC,cplC]
  rw[cpl_sym a b]
  by_cases h:x=y
  ·rw[if_pos h,if_pos h.symm]
  ·rw[if_neg h,if_neg (Ne.symm h)]
theorem pre_take:∀(b z:List Int),pre b z=decide (z.take b.length=b)
 | [],z=>by rw[show pre [] z=true from rfl,List.length_nil,List.take_zero];exact(decide_eq_true rfl).symm
 |y::ys,[]=>by rw[show pre (y::ys) []=false from rfl,List.take_nil];exact(decide_eq_false (λh=>nomatch h)).symm
 |y::ys,x::xs=>by
  rw[preC,List.length_cons,List.take_succ_cons,pre_take ys xs]
  by_cases h:x=y
  ·rw[if_pos h]
   by_cases h2:xs.take ys.length=ys
   ·rw[decide_eq_true h2,decide_eq_true (by rw[h,h2])]
   ·rw[decide_eq_false h2,decide_eq_false (λz=>h2 (List.cons.inj z).2)]
  ·rw[if_neg h,decide_eq_false (λz=>h (List.cons.inj z).1)]
theorem r_ixA{SR:List (Nat×AO)}{st:St}{a:Nat}{xs:List V}{j:Int}{x:V}(h:lk a SR=some (.list xs))(hx:ixL xs j=some x):getI SR (.adr a) (.int j) st=some (x,st):=by
 unfold getI getV getOV
 dsimp only
 rw[show rdV SR (.adr a) st=some (.list xs)from h]
 show(match ixL xs j with|some x=>some (x,st)|none=>none)= _
 rw[hx]
theorem r_lenA{SR:List (Nat×AO)}{st:St}{a:Nat}{xs:List V}(h:lk a SR=some (.list xs))(hn:xs.length≤1000):lenB SR [.adr a] st=some (.int xs.length,st):=by
 unfold lenB lenV
 dsimp only
 unfold lsV
 rw[show rdV SR (.adr a) st=some (.list xs)from h]
 dsimp only
 rw[ble_of (by lia)]
theorem ix_int{xs:List V}{r:Int}(h0:0≤r)(h1:r<xs.length)(hn:xs.length≤1000):∃x,xs[r.toNat]? =some x∧ixL xs r=some x:=by
 have hl:r.toNat<xs.length:=by lia
 exact I12 _ (List.getElem?_eq_getElem hl) (ixL_natB (j:=r.toNat) (by lia) (List.getElem?_eq_getElem hl) (by lia))
section
variable{X:XP}{st:St}{kd kc T:Nat}
theorem pickA(D:Dk st kd kc T)(hT:T≤1000){a:Nat}{xs:List V}(h:lk a X.SR=some (.list xs))(hp:0<xs.length)(hn:xs.length≤1000):∃st2 i x,i<xs.length∧xs[i]? =some x∧f_law_pick X [.ref kd,.adr a] st=some (x,st2)∧Dk st2 kd kc (T+1)∧Ext (λj=>j=kd∨j=kc) st st2:=
 pick_run D hT (r_lenA h hn) (λs r h0 h1 _=>by
  obtain⟨x,x1,x2⟩:=ix_int h0 h1 hn
  exact⟨x,x1,r_ixA h x2⟩) hp hn
theorem pickR(D:Dk st kd kc T)(hT:T≤1000){k:Nat}{xs:List V}(h:rdO k st=some (.list xs))(hk:k<st.n)(k1:k≠kd)(k2:k≠kc)(hp:0<xs.length)(hn:xs.length≤1000):∃st2 i x,i<xs.length∧xs[i]? =some x∧f_law_pick X [.ref kd,.ref k] st=some (x,st2)∧Dk st2 kd kc (T+1)∧Ext (λj=>j=kd∨j=kc) st st2:=
 pick_run D hT (r_len h (ble_of (by lia))) (λs r h0 h1 e=>by
  obtain⟨x,x1,x2⟩:=ix_int h0 h1 hn
  exact⟨x,x1,r_ix (e.rd h hk λq=>by rcases q with q|q;exact k1 q;exact k2 q) x2⟩) hp hn
theorem pk_loop{P:Int→Prop}{fe:Loc→M V}{kk:Nat}(hfe:∀(l:Loc) (st:St) (T:Nat),lk 0 l=some (.ref kd)→Dk st kd kc T→T≤1000→∃st2 x,fe l st=some (.int x,st2)∧P x∧Dk st2 kd kc (T+1)∧Ext (λj=>j=kd∨j=kc) st st2)(k1:kd≠kk)(k2:kc≠kk){N:Nat}:∀(m i fuel:Nat) (l:Loc) (st:St) (acc:List Int) (T:Nat),i+m=N→lk 0 l=some (.ref kd)→Dk st kd kc T→T+m≤1000→lk kk st.H=some (.list (zV acc))→kk<st.n→acc.length+m≤1000→m<fuel→(∀x∈acc,P x)→
 ∃st2 a,compLp (itR 0 N) (st' 1) trueT fe kk fuel i l st=some ((),st2)∧lk kk st2.H=some (.list (zV a))∧a.length=acc.length+m∧(∀x∈a,P x)∧Dk st2 kd kc (T+m)∧Ext (λj=>j=kd∨j=kc∨j=kk) st st2
 |m,i,0,_,_,_,_,_,_,_,_,_,_,_,hf,_=>absurd hf (Nat.not_lt_zero _)
 |0,i,f+1,l,st,acc,T,hi,h0,D,hT,ha,hk,hn,hf,hP=>⟨st,acc,r_compEnd (r_itR_e (n:=N) (i:=i) (by lia)),ha,rfl,hP,D,.refl⟩
 |m+1,i,f+1,l,st,acc,T,hi,h0,D,hT,ha,hk,hn,hf,hP=>by
  refine E24 (hfe (up 1 (.int (i:Int)) l) st T (lk_other rfl h0) D (by lia)) λs2 x r1 r2 r3 r4=>?_
  have a2:=r4.lk ha hk λq=>by rcases q with q|q;exact k1 q.symm;exact k2 q.symm
  have ha2:=r_appZ (x:=x) a2 (by lia)
  have Y:Ext (λj=>j=kd∨j=kc∨j=kk) st {s2 with H:=up kk (.list (zV (acc++[x]))) s2.H}:=(r4.wide λj q=>by rcases q with q|q;exact .inl q;exact .inr (.inl q)).trans (.up _ (.inr (.inr rfl)))
  have D2:Dk {s2 with H:=up kk (.list (zV (acc++[x]))) s2.H} kd kc (T+1):=r3.xt (Ext.up (p:=(· =kk)) _ rfl) k1 k2
  obtain⟨st3,a,q1,q2,q3,q4,q5,q6⟩:=pk_loop (N:=N) hfe k1 k2 m (i+1) f (up 1 (.int (i:Int)) l) {s2 with H:=up kk (.list (zV (acc++[x]))) s2.H} (acc++[x]) (T+1) (by lia) (lk_other rfl h0) D2 (by lia) (lk_sameH _ _ _) (Nat.lt_of_lt_of_le hk Y.le) (by rw[List.length_append,List.length_singleton];lia) (by lia) (λy hy=>by
   rcases List.mem_append.mp hy with q|q
   ·exact hP y q
   ·rw[List.mem_singleton.mp q];exact r2)
  refine I26 st3 a (r_compT (r_itR (n:=N) (i:=i) (by lia)) rfl r_trueT r1 ha2 q1) q2 (by rw[q3,List.length_append,List.length_singleton];lia) q4 (by rw[show T+(m+1)=T+1+m by lia];exact q5) (Y.trans q6)
theorem pk_comp{P:Int→Prop}{fe:Loc→M V}{b:Int}{l:Loc}(hfe:∀(l:Loc) (st:St) (T:Nat),lk 0 l=some (.ref kd)→Dk st kd kc T→T≤1000→∃st2 x,fe l st=some (.int x,st2)∧P x∧Dk st2 kd kc (T+1)∧Ext (λj=>j=kd∨j=kc) st st2)(D:Dk st kd kc T)(hT:T≤500)(hl:lk 1 l=some (.ref kd))(hb:0<b)(hb2:b≤100):
 ∃st2 k a,compM (rngI' (esC (callE (esC (gt 1) (esC (cst (.int b)) esN)) (f_law_draw X)) esN)) [(0,1)] (st' 1) trueT fe 1000 l st=some (.ref k,st2)∧lk k st2.H=some (.list (zV a))∧(a.length:Int)<b∧(∀x∈a,P x)∧Dk st2 kd kc (T+101)∧Ext (λj=>j=kd∨j=kc) st st2∧st.n≤k∧k<st2.n:=by
 refine bc λhno=>?_;refine E25 (draw_run (X:=X) D (by lia) hb (by lia)) λs1 r d1 d2 d3 d4 d5=>?_
 have rg:rngI' (esC (callE (esC (gt 1) (esC (cst (.int b)) esN)) (f_law_draw X)) esN) l st=some (itR 0 r.toNat,s1):=r_rng1 (n:=r.toNat) (by
  rw[show((r.toNat:Nat):Int)=r by lia]
  exact r_esC (r_call (r_esC (r_gt hl) (r_esC r_cst r_esN)) d1) r_esN) (by lia)
 have D2:Dk (s1.add (.list (zV []))) kd kc (T+1):=d4.xt (Ext.add (p:=No) _) (λq=>q) λq=>q
 have hcar:carry [(0,1)] l=[(0,.ref kd)]:=by
  show List.filterMap (λp=>(lk p.2 l).map λv=>(p.1,v)) [(0,1)]= _
  rw[List.filterMap_cons,hl];rfl
 refine E26 (pk_loop hfe (Nat.ne_of_lt d4.ld) (Nat.ne_of_lt d4.lc) (N:=r.toNat) r.toNat 0 1000 [(0,.ref kd)] (s1.add (.list (zV []))) [] (T+1) (by lia) rfl D2 (by lia) (lkH_new _ _) (Nat.lt_succ_self _) (by simp;lia) (by lia) (λx hx=>by cases hx)) λst2 a q1 q2 q3 q4 q5 q6=>?_
 have le:=d5.le
 refine hno ?_;refine I38 st2 s1.n a (r_comp rg (by rw[hcar];exact q1)) q2 (by rw[q3,List.length_nil];lia) q4 ?_ (d5.transN ((Ext.add _).trans q6:Ext (λj=>j=kd∨j=kc∨j=s1.n) s1 st2) (λj hj q=>?_)) le (Nat.lt_of_lt_of_le (Nat.lt_succ_self _) q6.le)
 ·refine E37 q5.ex λcs m t e1 e2 e3 e4 e5 e6 e7=>?_
  exact⟨⟨cs,m,t,e1,e2,e3,e4,e5,by lia,e7⟩,q5.ld,q5.lc,q5.ne⟩
 ·rcases q with q|q|q
  ·exact .inl q
  ·exact .inr q
  ·lia
theorem law8_run{l:Loc}{kt:Nat}{text:List Int}(D:Dk st kd kc T)(hT:T≤300)(g1:lk 1 l=some (.ref kd))(g3:lk 3 l=some (.ref kt))(ht:rdO kt st=some (.list (zV text)))(lt:kt<st.n)(t1:kt≠kd)(t2:kt≠kc)(hn:text.length≤12):
 ∃st2 k other at_,m_law_8 X l st=some ((stRev [13,14] [.ref k,.int (at_:Nat)] l,.next),st2)∧lk k st2.H=some (.list (zV other))∧other.length≤3∧st.n≤k∧k<st2.n∧Ext (λj=>j=kd∨j=kc) st st2:=by
 refine bc λhno=>?_;obtain⟨s1,k,a,c1,c2,c3,c4,c5,c6,c7,c8⟩:=pk_comp (X:=X) (P:=λ_=>True) (fe:=(callE (esC (gt 0) (esC (lstE (esC (cst (.int 65)) (esC (cst (.int 768)) (esC (cst (.int 66)) esN)))) esN)) (f_law_pick X))) (b:=4) (l:=l) (λl st T h0 D hT=>by
  have D2:Dk (st.add (.list (zV [65,768,66]))) kd kc T:=D.xt (Ext.add (p:=No) _) (λq=>q) λq=>q
  refine bc λhno=>?_;refine E35 (pickR (X:=X) D2 hT (rdO_H (lkH_new st (.list (zV [65,768,66])))) (Nat.lt_succ_self _) (Nat.ne_of_gt D.ld) (Nat.ne_of_gt D.lc) (Nat.succ_pos _) (Nat.le_of_ble_eq_true rfl)) λs i x i1 i2 i3 i4 i5=>?_
  obtain⟨y,rfl⟩:∃y,x=.int y:=by
   rw[List.getElem?_map]at i2
   cases e:([65,768,66]:List Int)[i]? with
   |none=>rw[e]at i2;exact nos i2
   |some y=>rw[e]at i2;exact I11 y ((Option.some.inj i2).symm)
  refine hno ?_;exact⟨s,y,r_call (r_esC (r_gt h0) (r_esC (r_lst1 (vs:=zV [65,768,66]) (r_esC r_cst (r_esC r_cst (r_esC r_cst r_esN))) (Nat.le_of_ble_eq_true rfl)) r_esN)) i3,trivial,i4,(Ext.add _).trans i5⟩) D (by lia) g1 (by decide) (by decide)
 have nP:¬(kt=kd∨kt=kc):=λq=>by rcases q with q|q;exact t1 q;exact t2 q
 have ht1:=c6.rd ht lt nP
 refine E25 (draw_run (X:=X) c5 (by lia) (b:=(text.length:Int)+2) (by lia) (by lia)) λs2 r d1 d2 d3 d4 d5=>?_
 have len:callE (esC (gt 3) esN) (lenB X.SR) l s1=some (.int text.length,s1):=r_call (r_esC (r_gt g3) r_esN) (r_lenZ ht1 (by lia))
 obtain⟨at_,rfl⟩:∃n:Nat,r=n:=⟨r.toNat,by lia⟩
 have dr:callE (esC (gt 1) (esC (binE (callE (esC (gt 3) esN) (lenB X.SR)) (cst (.int 2)) (addI)) esN)) (f_law_draw X) l s1=some (.int (at_:Int),s2):=r_call (r_esC (r_gt g1) (r_esC (r_bin len r_cst r_add) r_esN)) d1
 refine hno ?_;exact I46 s2 k a at_ (r_asgR (r_tup (r_esC c1 (r_esC dr r_esN)) rfl) rfl) (d5.lk c2 c8 (λq=>by have:=D.ld;have:=D.lc;lia)) (by lia) c7 (Nat.lt_of_lt_of_le c8 d5.le) (c6.trans d5)
theorem lp_pure{k1 k2:Nat}{a b:List Int}(h1:rdO k1 st=some (.list (zV a)))(h2:rdO k2 st=some (.list (zV b)))(b1:X.B≤k1)(b2:X.B≤k2)(n1:a.length≤500)(n2:b.length≤500):pureM X.RD X.B (f_law_prefix X) [.ref k1,.ref k2] st=some (.int (cpl a b),st):=by
 refine E11 (lp_run (X:=X) (st:=⟨[],(X.B+0,.list (zV a))::(X.B+1,.list (zV b))::X.RD,X.B+2⟩) (k1:=X.B+0) (k2:=X.B+1) rd_1 rd_2 (by show X.B+0<X.B+2;lia) (by show X.B+1<X.B+2;lia) n1 n2) λs e=>?_
 exact r_pureV (canon2 h1 h2 b1 b2 rfl) e rfl
theorem law9_run{l:Loc}{kt ko:Nat}{text other:List Int}(g3:lk 3 l=some (.ref kt))(g13:lk 13 l=some (.ref ko))(ht:rdO kt st=some (.list (zV text)))(ho:rdO ko st=some (.list (zV other)))(b1:X.B≤kt)(b2:X.B≤ko)(n1:text.length≤12)(n2:other.length≤3):m_law_9 X l st=some ((l,.next),st):=by
 have cp1:=cp_pure (X:=X) ht ho b1 b2 (by lia) (by lia)
 have cp2:=cp_pure (X:=X) ho ht b2 b1 (by lia) (by lia)
 have lp:=lp_pure (X:=X) ht ho b1 b2 (by lia) (by lia)
 rw[cpl_sym]at cp2
 exact r_iff_f (r_orT_f (r_tst (r_bin (r_call (r_esC (r_gt g3) (r_esC (r_gt g13) r_esN)) cp1) (r_call (r_esC (r_gt g3) (r_esC (r_gt g13) r_esN)) lp) (r_eqT r_eqI)) (r_tb (by rw[decide_eq_true rfl];rfl))) (r_orT_f (r_tst (r_bin (r_call (r_esC (r_gt g13) (r_esC (r_gt g3) r_esN)) cp2) (r_call (r_esC (r_gt g3) (r_esC (r_gt g13) r_esN)) lp) (r_eqT r_eqI)) (r_tb (by rw[decide_eq_true rfl];rfl))) r_falseT)) r_nextS
theorem r_andE_t{SR:List (Nat×AO)}{f g:Loc→M V}{l:Loc}{st st1:St}{r:Option (V×St)}(h1:f l st=some (.bool true,st1))(h2:g l st1=r):andE SR f g l st=r:=bnd h1 (bnd (a:=true) (st1:=st1) rfl h2)
theorem r_andE_f{SR:List (Nat×AO)}{f g:Loc→M V}{l:Loc}{st st1:St}(h1:f l st=some (.bool false,st1)):andE SR f g l st=some (.bool false,st1):=bnd h1 (bnd (a:=false) (st1:=st1) rfl rfl)
theorem r_eqB{SR:List (Nat×AO)}{a b:Bool}{st:St}(h:a=b):cmpEq SR (.bool a) (.bool b) st=some true:=by
 subst h
 cases a <;> rfl
theorem law10_run{l:Loc}{kt ko n:Nat}{text other:List Int}(g3:lk 3 l=some (.ref kt))(g13:lk 13 l=some (.ref ko))(g14:lk 14 l=some (.int (n:Int)))(ht:rdO kt st=some (.list (zV text)))(ho:rdO ko st=some (.list (zV other)))(lt:kt<st.n)(lo:ko<st.n)(b1:X.B≤kt)(b2:X.B≤ko)(n1:text.length≤12)(n2:other.length≤3):∃st2,m_law_10 X l st=some ((l,.ret (.bool true)),st2):=by
 have sa:=sa_pure (X:=X) (n:=n) ht ho b1 b2 (by lia) (by lia)
 have lenO:∀ {s},rdO ko s=some (.list (zV other))→callE (esC (gt 13) esN) (lenB X.SR) l s=some (.int other.length,s):=λh=>r_call (r_esC (r_gt g13) r_esN) (r_lenZ h (by lia))
 have lenT:callE (esC (gt 3) esN) (lenB X.SR) l st=some (.int text.length,st):=r_call (r_esC (r_gt g3) r_esN) (r_lenZ ht (by lia))
 have left:callE (esC (callE (esC (gt 3) (esC (gt 13) (esC (gt 14) esN))) (pureM X.RD X.B (f_starts_at X))) esN) (boolB) l st=some (.bool (saB text other n),st):=r_call (r_esC (r_call (r_esC (r_gt g3) (r_esC (r_gt g13) (r_esC (r_gt g14) r_esN))) sa) r_esN) rfl
 have sum:binE (gt 14) (callE (esC (gt 13) esN) (lenB X.SR)) (addI) l st=some (.int ((n+other.length:Nat):Int),st):=by
  rw[Int.natCast_add];exact r_bin (r_gt g14) (lenO ho) r_add
 have le:∀b,decide (((n+other.length:Nat):Int)≤(text.length:Int))=b→binE (binE (gt 14) (callE (esC (gt 13) esN) (lenB X.SR)) (addI)) (callE (esC (gt 3) esN) (lenB X.SR)) (cmpI λa b=>decide (a≤b)) l st=some (.bool b,st):=λb hb=>by
  rw[←hb];exact r_bin sum lenT r_cmp
 by_cases h:n+other.length≤text.length
 ·have e:saB text other n=decide ((text.drop n).take (n+other.length-n)=other):=by
   unfold saB
   rw[decide_eq_true h,Bool.true_and,pre_take,Nat.add_sub_cancel_left]
  have mid:=r_mid (SR:=X.SR) (l:=l) (st:=st) (r_gt g3) (r_someP (r_gt g14)) (r_someP sum) ht (Nat.le_add_right _ _) h (by lia)
  have ho':=(Ext.add (p:=No) (.list (zV ((text.drop n).take (n+other.length-n))))).rd ho lo λq=>q
  exact I11 _ (r_rtn (r_bin left (r_andE_t (le true (decide_eq_true (by lia))) (r_bin mid (r_gt g13) (r_eqF (r_cmpL (rdO_H (lkH_new _ _)) ho')))) (r_eqF (r_eqB e))))
 ·have e:saB text other n=false:=by
   unfold saB
   rw[decide_eq_false h];rfl
  exact I11 _ (r_rtn (r_bin left (r_andE_f (le false (decide_eq_false (by lia)))) (r_eqF (r_eqB e))))
end
section
variable{X:XP}{cv:V}{wd:List Nat}{w cm:Bool}
noncomputable def law5to(X:XP):Loc→M (Loc×Fl):=sq (m_law_5 X) (sq (m_law_6 X) (sq (m_law_7 X) (sq (m_law_8 X) (sq (m_law_9 X) (sq (m_law_10 X) nextS)))))
theorem rest_run(G:Gr X cv wd w cm)(hcv:notBi cv=true)(hst:∀c∈menu,∀st,pureM X.RD X.B (f_is_stable_ahead X) [.int c,.ref 0,.str wd,cv] st=some (.bool (decide (cls c=0)),st))
 {l:Loc} {st:St} {ks kdS kh kdu kto kt kw ku kd kc T c0 c1:Nat} {text:List Int} (L:LS X cv wd l st ks kdS kh kdu kto [] [] (pform w cm text)) (D:Dk st kd kc T) (hT:T≤300) (g1:lk 1 l=some (.ref kd)) (g3:lk 3 l=some (.ref kt)) (g5:lk 5 l=some (.ref kw)) (g6:lk 6 l=some (.ref ku)) (ht:rdO kt st=some (.list (zV text))) (hw:rdO kw st=some (.list (zV text))) (hu:rdO ku st=some (.list (zV [(c0:Int),(c1:Int)]))) (lt:kt<st.n) (lw:kw<st.n) (lu:ku<st.n)
 (bt:X.B≤kt) (n1:kt≠kdS) (n2:kt≠kh) (n3:kw≠kdS) (n4:kw≠kh) (n5:kd≠kdS) (n6:kd≠kh) (n7:kc≠kdS) (n8:kc≠kh) (n9:kt≠kd) (n10:kt≠kc)
 (hm:∀c∈text,c∈menu) (hn:text.length≤12) (hc:c0≤c1) (hc1:c1≤text.length):
 ∃l2 st2,law5to X l st=some ((l2,.ret (.bool true)),st2):=by
 refine bc λhno=>?_;refine E56 (law5_run G hcv hst L g3 g6 ht hu lt lu hm hn hc hc1) λl5 s5 kh5 kto5 q r5 L5 I5 k5 X5 h5=>?_
 have nP:∀ {j},j≠kdS→j≠kh→¬(j=kdS∨j=kh):=λa b q=>by rcases q with q|q;exact a q;exact b q
 have D5:=D.xt X5 (nP n5 n6) (nP n7 n8)
 have t5:=X5.rd ht lt (nP n1 n2)
 have w5:=X5.rd hw lw (nP n3 n4)
 have lt5:=Nat.lt_of_lt_of_le lt X5.le
 have lw5:=Nat.lt_of_lt_of_le lw X5.le
 refine E34 (law67_run G hcv (kt:=kt) (kw:=kw) L5 rfl I5 ((k5 3 (by decide) (by decide) (by decide)).trans g3) ((k5 5 (by decide) (by decide) (by decide)).trans g5) t5 w5 lt5 lw5 n1 n3 hm hn) λl7 s6 s7 r6 r7 k7 X7=>?_
 have D7:=D5.xt X7 n5 n7
 have t7:=X7.rd t5 lt5 n1
 have lt7:=Nat.lt_of_lt_of_le lt5 X7.le
 have g3':lk 3 l7=some (.ref kt):=(k7 3 (by decide)).trans ((k5 3 (by decide) (by decide) (by decide)).trans g3)
 have g1':lk 1 l7=some (.ref kd):=(k7 1 (by decide)).trans ((k5 1 (by decide) (by decide) (by decide)).trans g1)
 refine E46 (law8_run (X:=X) D7 hT g1' g3' t7 lt7 n9 n10 hn) λs8 ko other at_ r8 o1 o2 o3 o4 X8=>?_
 have t8:=X8.rd t7 lt7 (λq=>by rcases q with q|q;exact n9 q;exact n10 q)
 have lt8:=Nat.lt_of_lt_of_le lt7 X8.le
 have b8:X.B≤ko:=Nat.le_trans L5.hB (Nat.le_trans X7.le o3)
 have h3:lk 3 (stRev [13,14] [.ref ko,.int (at_:Nat)] l7)=some (.ref kt):=lk_other rfl (lk_other rfl g3')
 have h13:lk 13 (stRev [13,14] [.ref ko,.int (at_:Nat)] l7)=some (.ref ko):=lk_same _ _ _
 have h14:lk 14 (stRev [13,14] [.ref ko,.int (at_:Nat)] l7)=some (.int (at_:Int)):=lk_other rfl (lk_same _ _ _)
 have r9:=law9_run (X:=X) h3 h13 t8 (rdO_H o1) bt b8 hn o2
 refine E11 (law10_run (X:=X) h3 h13 h14 t8 (rdO_H o1) lt8 o4 bt b8 hn o2) λs10 r10=>?_
 refine hno ?_;exact I21 _ s10 (r_sq r5 (r_sq r6 (r_sq r7 (r_sq r8 (r_sq r9 (r_sq_r r10))))))
end
section
variable{X:XP}{st:St}{kd kc T:Nat}{l:Loc}
theorem Dk.more{T2:Nat}(D:Dk st kd kc T)(h:T≤T2):Dk st kd kc T2:=by
 refine E37 D.ex λcs m t e1 e2 e3 e4 e5 e6 e7=>?_
 exact⟨⟨cs,m,t,e1,e2,e3,e4,e5,by lia,e7⟩,D.ld,D.lc,D.ne⟩
noncomputable def knownL:List (List Int):=[[65,768,803],[65,770,803,768],[194,768],[768,64257,803]]
theorem known_menu:∀a∈knownL,(∀c∈a,c∈menu)∧a.length≤12:=by decide
theorem known_at(hX:X.SR=SR0){i:Nat}{x:V}(h:i<4)(hx:([.adr 406,.adr 407,.adr 408,.adr 409]:List V)[i]? =some x):∃a text,x=.adr a∧text∈knownL∧lk a X.SR=some (.list (zV text)):=by
 rw[hX]
 rcases i with _|_|_|_|i
 ·obtain rfl:=sin hx;exact I23 406 ([65,768,803]) rfl (by decide) rfl
 ·obtain rfl:=sin hx;exact I23 407 ([65,770,803,768]) rfl (by decide) rfl
 ·obtain rfl:=sin hx;exact I23 408 ([194,768]) rfl (by decide) rfl
 ·obtain rfl:=sin hx;exact I23 409 ([768,64257,803]) rfl (by decide) rfl
 ·lia
theorem r_cpyA{SR:List (Nat×AO)}{a:Nat}{xs:List V}{st:St}(h:lk a SR=some (.list xs))(hn:xs.length≤100000):listB SR [.adr a] st=some (.ref st.n,st.add (.list xs)):=by
 unfold listB
 dsimp only
 unfold cpyL lsV
 rw[show rdV SR (.adr a) st=some (.list xs)from h]
 dsimp only
 rw[ble_of hn]
theorem law1_run(hX:X.SR=SR0)(D:Dk st kd kc T)(hT:T≤300)(g1:lk 1 l=some (.ref kd)):
 ∃l2 st2 kt text,m_law_1 X l st=some ((l2,.next),st2)∧lk 3 l2=some (.ref kt)∧(∀i,i≠3→lk i l2=lk i l)∧lk kt st2.H=some (.list (zV text))∧(∀c∈text,c∈menu)∧text.length≤12∧Dk st2 kd kc (T+102)∧Ext (λj=>j=kd∨j=kc) st st2∧st.n≤kt∧kt<st2.n:=by
 refine bc λhno=>?_;refine E25 (draw_run (X:=X) D (by lia) (b:=4) (by decide) (by decide)) λs1 r d1 d2 d3 d4 d5=>?_
 have t:∀b,decide (r=0)=b→tst X.SR (binE (callE (esC (gt 1) (esC (cst (.int 4)) esN)) (f_law_draw X)) (cst (.int 0)) (eqM X.SR false)) l st=some (b,s1):=λb hb=>r_tst (r_bin (r_call (r_esC (r_gt g1) (r_esC r_cst r_esN)) d1) r_cst (r_eqF r_eqI)) (r_tb hb)
 by_cases h:r=0
 ·refine E35 (pickA (X:=X) (a:=410) (xs:=[.adr 406,.adr 407,.adr 408,.adr 409]) d4 (by lia) (by rw[hX];rfl) (by decide) (by decide)) λs2 i x i1 i2 i3 i4 i5=>?_
  refine E23 (known_at hX i1 i2) λa text q9547 m1 m2=>?_;subst q9547
  refine E02 (known_menu text m1) λm3 m4=>?_
  have le:=i5.le
  have le2:=d5.le
  refine hno ?_;exact⟨up 3 (.ref s2.n) l,s2.add (.list (zV text)),s2.n,text,r_iff_t (t true (decide_eq_true h)) (r_sq (r_asgN (r_call (r_esC (r_call (r_esC (r_gt g1) (r_esC r_cst r_esN)) i3) r_esN) (r_cpyA m2 (by rw[zV_len];lia)))) r_nextS),lk_same _ _ _,λi hi=>by rw[lk_up,if_neg hi],lkH_new _ _,m3,m4,(i4.xt (Ext.add (p:=No) _) (λq=>q) λq=>q).more (by lia),(d5.trans i5).trans (.add _),by lia,Nat.lt_succ_self _⟩
 ·obtain⟨s2,k,a,c1,c2,c3,c4,c5,c6,c7,c8⟩:=pk_comp (X:=X) (P:=λx=>x∈menu) (fe:=(callE (esC (gt 0) (esC (cst (.adr 405)) esN)) (f_law_pick X))) (b:=8) (l:=l) (λl st T h0 D hT=>by
   refine bc λhno=>?_;refine E35 (pickA (X:=X) (a:=405) (xs:=zV menu) D hT (by rw[hX];rfl) (by decide) (by decide)) λs i x i1 i2 i3 i4 i5=>?_
   obtain⟨y,rfl,hy⟩:∃y,x=.int y∧y∈menu:=by
    rw[List.getElem?_map]at i2
    cases e:menu[i]? with
    |none=>rw[e]at i2;exact nos i2
    |some y=>rw[e]at i2;exact I12 y ((Option.some.inj i2).symm) (List.mem_of_getElem? e)
   refine hno ?_;exact⟨s,y,r_call (r_esC (r_gt h0) (r_esC r_cst r_esN)) i3,hy,i4,i5⟩) d4 (by lia) g1 (by decide) (by decide)
  have le:=d5.le
  refine hno ?_;exact⟨up 3 (.ref k) l,s2,k,a,r_iff_f (t false (decide_eq_false h)) (r_sq (r_asgC c1) r_nextS),lk_same _ _ _,λi hi=>by rw[lk_up,if_neg hi],c2,c4,by lia,c5.more (by lia),d5.trans c6,by lia,c8⟩
noncomputable def wordsL:List (List Nat):=[wNfd,wNfc,wNfkd,wNfkc]
theorem law2_run(D:Dk st kd kc T)(hT:T≤500)(g1:lk 1 l=some (.ref kd)){kt:Nat}{text:List Int}(g3:lk 3 l=some (.ref kt))(ht:rdO kt st=some (.list (zV text)))(lt:kt<st.n)(n1:kt≠kd)(n2:kt≠kc)(hn:text.length≤12):
 ∃st2 wd kw,m_law_2 X l st=some ((stRev [4,5] [.str wd,.ref kw] l,.next),st2)∧wd∈wordsL∧lk kw st2.H=some (.list (zV text))∧Dk st2 kd kc (T+1)∧Ext (λj=>j=kd∨j=kc) st st2∧st.n≤kw∧kw<st2.n:=by
 have D2:Dk (st.add (.list [.str wNfd,.str wNfc,.str wNfkd,.str wNfkc])) kd kc T:=D.xt (Ext.add (p:=No) _) (λq=>q) λq=>q
 refine bc λhno=>?_;refine E35 (pickR (X:=X) D2 (by lia) (rdO_H (lkH_new st (.list [.str wNfd,.str wNfc,.str wNfkd,.str wNfkc]))) (Nat.lt_succ_self _) (Nat.ne_of_gt D.ld) (Nat.ne_of_gt D.lc) (Nat.succ_pos _) (Nat.le_of_ble_eq_true rfl)) λs i x i1 i2 i3 i4 i5=>?_
 obtain⟨wd,rfl,hw⟩:∃wd,x=.str wd∧wd∈wordsL:=by
  have e:([.str wNfd,.str wNfc,.str wNfkd,.str wNfkc]:List V)=wordsL.map V.str:=rfl
  rw[e,List.getElem?_map]at i2
  cases e:wordsL[i]? with
  |none=>rw[e]at i2;exact nos i2
  |some y=>rw[e]at i2;exact I12 y ((Option.some.inj i2).symm) (List.mem_of_getElem? e)
 have Y:Ext (λj=>j=kd∨j=kc) st s:=(Ext.add _).trans i5
 have t2:=Y.rd ht lt (λq=>by rcases q with q|q;exact n1 q;exact n2 q)
 have le:=Y.le
 refine hno ?_;exact I37 (s.add (.list (zV text))) wd s.n (r_asgR (r_tup (r_esC (r_call (r_esC (r_gt g1) (r_esC (r_lst1 (vs:=[.str wNfd,.str wNfc,.str wNfkd,.str wNfkc]) (r_esC r_cst (r_esC r_cst (r_esC r_cst (r_esC r_cst r_esN)))) (Nat.le_of_ble_eq_true rfl)) r_esN)) i3) (r_esC (r_call (r_esC (r_gt g3) r_esN) (r_cpy t2 (by rw[zV_len];lia))) r_esN)) rfl) rfl) hw (lkH_new _ _) (i4.xt (Ext.add (p:=No) _) (λq=>q) λq=>q) (Y.trans (.add _)) le (Nat.lt_succ_self _)
end
section
variable{X:XP}{st:St}{kd kc T:Nat}{l:Loc}
theorem law3_run(D:Dk st kd kc T)(hT:T≤500)(g1:lk 1 l=some (.ref kd)){kt:Nat}{text:List Int}(g3:lk 3 l=some (.ref kt))(ht:rdO kt st=some (.list (zV text)))(lt:kt<st.n)(n1:kt≠kd)(n2:kt≠kc)(hn:text.length≤12):
 ∃st2 ku c0 c1,m_law_3 X l st=some ((up 6 (.ref ku) l,.next),st2)∧lk ku st2.H=some (.list (zV [((c0:Nat):Int),((c1:Nat):Int)]))∧c0≤c1∧c1≤text.length∧Dk st2 kd kc (T+2)∧Ext (λj=>j=kd∨j=kc) st st2∧st.n≤ku∧ku<st2.n:=by
 have nP:¬(kt=kd∨kt=kc):=λq=>by rcases q with q|q;exact n1 q;exact n2 q
 have one:∀ {s:St} {T:Nat},Dk s kd kc T→T≤600→rdO kt s=some (.list (zV text))→∃s2 r,callE (esC (gt 1) (esC (binE (callE (esC (gt 3) esN) (lenB X.SR)) (cst (.int 1)) (addI)) esN)) (f_law_draw X) l s=some (.int ((r:Nat):Int),s2)∧r≤text.length∧Dk s2 kd kc (T+1)∧Ext (λj=>j=kd∨j=kc) s s2:=by
  intro s T D hT ht
  refine bc λhno=>?_;refine E25 (draw_run (X:=X) D (by lia) (b:=(text.length:Int)+1) (by lia) (by lia)) λs2 r d1 d2 d3 d4 d5=>?_
  obtain⟨r,rfl⟩:∃n:Nat,r=n:=⟨r.toNat,by lia⟩
  refine hno ?_;exact I24 s2 r (r_call (r_esC (r_gt g1) (r_esC (r_bin (r_call (r_esC (r_gt g3) r_esN) (r_lenZ ht (by lia))) r_cst r_add) r_esN)) d1) (by lia) d4 d5
 refine bc λhno=>?_;refine E24 (one D (by lia) ht) λs1 a a1 a2 a3 a4=>?_
 refine E24 (one a3 (by lia) (a4.rd ht lt nP)) λs2 b b1 b2 b3 b4=>?_
 have hs:sortB X.SR [.ref s2.n] (s2.add (.list (zV [(a:Int),(b:Int)])))=some (.ref (s2.n+1),(s2.add (.list (zV [(a:Int),(b:Int)]))).add (.list (if (a:Int)≤b then [.int a,.int b]else [.int b,.int a]))):=by
  unfold sortB
  dsimp only
  rw[r_lsV (rdO_H (lkH_new _ _))]
  rfl
 have le:=(a4.trans b4).le
 have Y:Ext (λj=>j=kd∨j=kc) st ((s2.add (.list (zV [(a:Int),(b:Int)]))).add (.list (if (a:Int)≤b then [.int a,.int b]else [.int b,.int a]))):=((a4.trans b4).trans (.add _)).trans (.add _)
 have hrun:m_law_3 X l st=some ((up 6 (.ref (s2.n+1)) l,.next),(s2.add (.list (zV [(a:Int),(b:Int)]))).add (.list (if (a:Int)≤b then [.int a,.int b]else [.int b,.int a]))):=r_asgN (r_call (r_esC (r_lst1 (vs:=zV [(a:Int),(b:Int)]) (r_esC a1 (r_esC b1 r_esN)) (Nat.le_of_ble_eq_true rfl)) r_esN) hs)
 have D2:Dk ((s2.add (.list (zV [(a:Int),(b:Int)]))).add (.list (if (a:Int)≤b then [.int a,.int b]else [.int b,.int a]))) kd kc (T+2):=(b3.xt (Ext.add (p:=No) _) (λq=>q) λq=>q).xt (Ext.add (p:=No) _) (λq=>q) λq=>q
 by_cases h:a≤b
 ·refine hno ?_;refine I48 _ (s2.n+1) a b hrun ?_ h b2 D2 Y (by lia) (Nat.lt_succ_self _)
  rw[if_pos (by lia)];exact lkH_new (s2.add _) _
 ·refine hno ?_;refine I48 _ (s2.n+1) b a hrun ?_ (by lia) a2 D2 Y (by lia) (Nat.lt_succ_self _)
  rw[if_neg (by lia)];exact lkH_new (s2.add _) _
end
section
variable{X:XP}{F:List (Nat×AO)}
theorem dk_loop{a:List Int}{n:Nat}(hn:a.length≤100):∀(a' p:List Int) (fuel:Nat) (l:Loc),a=p++a'→a'.length<fuel→
 compLp (itL X.SR (.ref 1)) (st' 0) trueT (callE (esC (gt 0) esN) (intB)) 2 fuel p.length l ⟨[(2,.list (zV p)),(1,.list (zV a))],F,n⟩=some ((),⟨[(2,.list (zV a)),(1,.list (zV a))],F,n⟩)
 |a',p,0,_,_,hf=>absurd hf (Nat.not_lt_zero _)
 | [],p,f+1,l,e,_=>by
   rw[List.append_nil]at e
   subst e
   exact r_compEnd (by rw[r_itL (rdO_H (lk_tail _ _ (by decide) |>.trans (lk_head _ _ _))),List.getElem?_eq_none (by rw[zV_len];exact Nat.le_refl _)])
 |c::a',p,f+1,l,e,hf=>by
  have hit:itL X.SR (.ref 1) p.length ⟨[(2,.list (zV p)),(1,.list (zV a))],F,n⟩=some (some (.int c)):=by
   rw[r_itL (rdO_H (lk_tail _ _ (by decide) |>.trans (lk_head _ _ _))),zV_get (x:=c) (by rw[e,List.getElem?_append_right (Nat.le_refl _),Nat.sub_self];rfl)]
  have hl:=congrArg List.length e
  rw[List.length_append,List.length_cons]at hl
  have ha:appL 2 (.int c) ⟨[(2,.list (zV p)),(1,.list (zV a))],F,n⟩=some ((),⟨[(2,.list (zV (p++[c]))),(1,.list (zV a))],F,n⟩):=r_appZ (lk_head _ _ _) (by lia)
  have ih:=dk_loop (n:=n) hn a' (p++[c]) f (up 0 (.int c) l) (by rw[e,List.append_assoc];rfl) (by rw[List.length_cons]at hf;lia)
  rw[List.length_append]at ih
  exact r_compT hit rfl r_trueT (r_call (r_esC (r_gt (lk_same _ _ _)) r_esN) rfl) ha ih
noncomputable def dm_body(X:XP):Loc→M (Loc×Fl):=(sq (asg (binE (binE (binE (binE (gt 2) (cst (.int 48271)) (mulI)) (binE (gt 3) (cst (.int 2147483629)) (modI)) (addI)) (cst (.int 11617)) (addI)) (cst (.int 2147483587)) (modI)) (st' 2)) nextS)
theorem dm_loop{a:List Int}{st:St}(h1:rdO 2 st=some (.list (zV a))):∀(a' p:List Int) (fuel:Nat) (l:Loc) (m:Int),a=p++a'→lk 2 l=some (.int m)→lk 1 l=some (.ref 2)→0≤m→m<2147483587→a'.length<fuel→
 ∃l2 m2,forM' (itL X.SR (.ref 2)) (st' 3) (dm_body X) fuel p.length l st=some ((l2,.next),st)∧lk 2 l2=some (.int m2)∧lk 1 l2=some (.ref 2)∧0≤m2∧m2<2147483587
 |a',p,0,_,_,_,_,_,_,_,hf=>absurd hf (Nat.not_lt_zero _)
 | [],p,f+1,l,m,e,h2,h3,m1,m2,_=>⟨l,m,r_forEnd (by rw[r_itL h1,e,List.append_nil,List.getElem?_eq_none (by rw[zV_len];exact Nat.le_refl _)]),h2,h3,m1,m2⟩
 |c::a',p,f+1,l,m,e,h2,h3,m1,m2,hf=>by
  have hit:itL X.SR (.ref 2) p.length st=some (some (.int c)):=by
   rw[r_itL h1,zV_get (x:=c) (by rw[e,List.getElem?_append_right (Nat.le_refl _),Nat.sub_self];rfl)]
  have p1:posB 2147483629=true:=posB_of (by decide) (by decide)
  have p3:posB 2147483587=true:=posB_of (by decide) (by decide)
  have a1:dm_body X (up 3 (.int c) l) st=some ((up 2 (.int (Int.fmod (m * 48271+Int.fmod c 2147483629+11617) 2147483587)) (up 3 (.int c) l),.next),st):=
   r_sq (r_asgN (r_bin (r_bin (r_bin (r_bin (r_gt (lk_other rfl h2)) r_cst (r_mul (sm_of m1 m2 (by decide)))) (r_bin (r_gt (lk_same _ _ _)) r_cst (r_mod p1)) r_add) r_cst r_add) r_cst (r_mod p3))) r_nextS
  have y1:=fm_nn (a:=m * 48271+Int.fmod c 2147483629+11617) (b:=2147483587) (by decide)
  have y2:=fm_lt (a:=m * 48271+Int.fmod c 2147483629+11617) (b:=2147483587) (by decide)
  generalize Int.fmod (m * 48271+Int.fmod c 2147483629+11617) 2147483587=y at a1 y1 y2
  refine E25 (dm_loop h1 a' (p++[c]) f (up 2 (.int y) (up 3 (.int c) l)) y (by rw[e,List.append_assoc];rfl) (lk_same _ _ _) (lk_other rfl (lk_other rfl h3)) y1 y2 (by rw[List.length_cons]at hf;lia)) λl2 z q1 q2 q3 q4 q5=>?_
  rw[List.length_append]at q1
  exact I25 l2 z (r_forStep hit rfl a1 q1) q2 q3 q4 q5
theorem r_slcX{SC:Option (Addr×List Int)}{a:Addr}{sc:List Int}{f:Loc→M V}{q:Loc→M (Option Int)}{n:Nat}{l:Loc}{st:St}(hs:SC=some (a,sc))(h1:f l st=some (.adr a,st))(h2:q l st=some (some (n:Int),st)):slcX SC f noP q l st=some (.ref st.n,st.add (.list (zV (sc.take n)))):=
 bnd h1 (bnd r_noP (bnd h2 (by
  subst hs
  dsimp only
  rw[beq_eq,decide_eq_true rfl]
  show some (V.ref st.n,st.add (.list (pickV (zV sc) none (some (n:Int)) none)))= _
  rw[pick_take,zV,zV,List.map_take])))
theorem deck_run{a:Addr}{sc:List Int}(hX:X.SC=some (a,sc)):∃o3 o2 o1 cs m,f_law_deck X [.adr a] ⟨[],[],1⟩=some (.ref 4,⟨[(4,dkO 3 m 0),(3,o3),(2,o2),(1,o1)],[],5⟩)∧o3=.list (zV cs)∧cs.length≤16∧0≤m∧m<2147483587:=by
 have tl:(sc.take 16).length≤16:=by rw[List.length_take];lia
 have c1:compM (valI X.SR (slcX X.SC (gt 0) noP (someP (cst (.int 16))))) [] (st' 0) trueT (callE (esC (gt 0) esN) (intB)) 1000 [(0,.adr a)] ⟨[],[],1⟩=some (.ref 2,⟨[(2,.list (zV (sc.take 16))),(1,.list (zV (sc.take 16)))],[],3⟩):=
  r_comp (r_valI (r_slcX (n:=16) hX (r_gt rfl) (r_someP r_cst)) (rdO_H (lk_head _ _ _))) (dk_loop (X:=X) (F:=[]) (n:=3) (a:=sc.take 16) (by lia) (sc.take 16) [] 1000 [] rfl (by lia))
 refine E25 (dm_loop (X:=X) (st:=⟨[(2,.list (zV (sc.take 16))),(1,.list (zV (sc.take 16)))],[],3⟩) (a:=sc.take 16) (rdO_H (lk_head _ _ _)) (sc.take 16) [] 1000 [(0,.adr a),(2,.int 11617),(1,.ref 2)] 11617 rfl rfl rfl (by decide) (by decide) (by lia)) λl2 m q1 q2 q3 q4 q5=>?_
 have hpk:pickV (zV (sc.take 16)) none none (some (-1))=zV (pickV (sc.take 16) none none (some (-1))):=by
  unfold pickV
  rw[zV_len,zV,zV,List.map_filterMap]
  congr 1
  funext i
  exact List.getElem?_map ..
 have hpl:(pickV (sc.take 16) none none (some (-1))).length≤16:=by
  unfold pickV
  refine Nat.le_trans (List.length_filterMap_le _ _) ?_
  rw[pickIx_rev,List.length_map,List.length_range];exact tl
 have rv:revE X.SR (gt 1) (someP (negE (cst (.int 1)))) l2 ⟨[(2,.list (zV (sc.take 16))),(1,.list (zV (sc.take 16)))],[],3⟩=some (.ref 3,⟨[(3,.list (pickV (zV (sc.take 16)) none none (some (-1)))),(2,.list (zV (sc.take 16))),(1,.list (zV (sc.take 16)))],[],4⟩):=by
  refine bnd (r_gt q3) (bnd (a:=some (-1)) (st1:=⟨[(2,.list (zV (sc.take 16))),(1,.list (zV (sc.take 16)))],[],3⟩) (r_someP (r_neg r_cst)) ?_)
  dsimp only
  rw[decide_eq_true rfl]
  dsimp only
  unfold revV
  dsimp only
  rw[r_lsV (rdO_H (lk_head _ _ _))]
  dsimp only
  rw[ble_of (by rw[zV_len];lia)]
  rfl
 refine I55 _ _ _ (pickV (sc.take 16) none none (some (-1))) m (r_fn rfl (r_sq (r_asgR (r_tup (r_esC c1 (r_esC r_cst r_esN)) rfl) rfl) (r_sq (r_for (r_valI (r_gt rfl) (rdO_H (lk_head _ _ _))) q1) (r_sq_r (r_rtn (bnd (bnd r_cst (bnd rv (bnd (bnd r_cst (bnd (r_gt q2) (bnd (bnd r_cst (bnd r_cst (bnd rfl rfl))) rfl))) rfl))) rfl)))))) (congrArg AO.list hpk) hpl q4 q5
end
mutual
noncomputable def renV(σ:Nat→Nat):V→V
 |.none=>.none
 |.bool b=>.bool b
 |.int i=>.int i
 |.str s=>.str s
 |.tup vs=>.tup (renVs σ vs)
 |.ref k=>.ref (σ k)
 |.adr a=>.adr a
 |.bi x=>.bi x
 |.ty x=>.ty x
noncomputable def renVs(σ:Nat→Nat):List V→List V
 | []=>[]
 |v::r=>renV σ v::renVs σ r
end
noncomputable def renE{K:Type}(σ:Nat→Nat):List (K×V)→List (K×V)
 | []=>[]
 |p::r=>(p.1,renV σ p.2)::renE σ r
noncomputable def renO(σ:Nat→Nat):AO→AO
 |.list xs=>.list (renVs σ xs)
 |.inst C d=>.inst C (σ d)
 |.ns es=>.ns (renE σ es)
 |.sd es=>.sd (renE σ es)
 |.idt es=>.idt (renE σ es)
 |.td es=>.td (renE σ es)
theorem renVs_zV(σ:Nat→Nat):∀a:List Int,renVs σ (zV a)=zV a
 | []=>rfl
 |x::a=>by
  show renV σ (.int x)::renVs σ (zV a)= _
  rw[renVs_zV σ a];rfl
noncomputable def XC0(p:Addr×List Int):XP:=⟨SR0,[],0,some p⟩
noncomputable def hsL:List Nat:=[6,5,7,8,9,10,12,11,60,64,68,67,109,113]
noncomputable def sig0(k:Nat):Nat:=hsL.getD k 0
noncomputable def rdMap(H:List (Nat×AO)):List (Option AO):=RD1.map λp=>lk (sig0 p.1) H
noncomputable def rdWant:List (Option AO):=RD1.map λp=>some (renO sig0 p.2)
set_option maxRecDepth 100000 in
theorem data_ev(p:Addr×List Int)(o4 o3 o2 o1:AO):(f_law_data (XC0 p) [] ⟨[(4,o4),(3,o3),(2,o2),(1,o1)],[],5⟩).map (λp=>(p.1,p.2.n,lk 4 p.2.H,lk 3 p.2.H,rdMap p.2.H))=some (.ref 6,114,some o4,some o3,rdWant):=by kernel_rfl
section
variable{n n':Nat}{ρ:Nat→Addr}{h:Heap}{σ:Nat→Nat}
theorem VR.ren{v:V}{v':Value}(r:VR n ρ h (renV σ v) v')(b:V.clo n' v=true):VR n' (λk=>ρ (σ k)) h v v':=
 V.rec (motive_1:=λv=>∀x,VR n ρ h (renV σ v) x→V.clo n' v=true→VR n' (λk=>ρ (σ k)) h v x) (motive_2:=λvs=>∀xs,VRs n ρ h (renVs σ vs) xs→V.clos n' vs=true→VRs n' (λk=>ρ (σ k)) h vs xs)
   (λx r _=>(show x=.none from r.inv)▸ .none) (λb x r _=>(show x=.bool b from r.inv)▸ .bool b) (λi x r _=>E11 r.inv λt e=>e▸ .int i t) (λs x r _=>E22 r.inv λy t e q=>e▸ .str y t q)
   (λvs ih x r b=>E23 r.inv λa items e ht rs=>e▸ .tup ht (ih _ rs b)) (λk x r b=>(show x=.ref (ρ (σ k))from r.inv.1)▸VR.ref (ρ:=λk=>ρ (σ k)) (Nat.le_of_ble_eq_true b))
   (λa x r _=>(show x=.ref a from r.inv)▸ .adr a) (λy x r _=>(show x=.builtin y from r.inv)▸ .bi y) (λy x r _=>(show x=.type y from r.inv)▸ .ty y)
   (λxs r _=>(show xs=[]from r.inv)▸ .nil) (λv vs iv is xs r b=>E23 r.inv λy ys e ry rs=>e▸ .cons (iv y ry (clos_cons b).1) (is ys rs (clos_cons b).2)) v v' r b
theorem VRs.ren{vs:List V}{vs':List Value}(r:VRs n ρ h (renVs σ vs) vs')(b:V.clos n' vs=true):VRs n' (λk=>ρ (σ k)) h vs vs':=by
 induction vs generalizing vs' with
 |nil=>rw[show vs'=[]from r.inv];exact .nil
 |cons v vs ih=>exact E23 r.inv λy ys e ry rs=>e▸ .cons (ry.ren (clos_cons b).1) (ih rs (clos_cons b).2)
theorem KVR.ren{K:Type}{es:List (K×V)}{r:List (K×Value)}(x:KVR n ρ h (renE σ es) r)(b:belowE n' es=true):KVR n' (λk=>ρ (σ k)) h es r:=by
 induction es generalizing r with
 |nil=>rw[show r=[]from x.invL];exact .nil
 |cons p es ih=>exact E23 x.invL λv' ys e rv rs=>e▸ .cons (VR.ren rv (belowE_cons b).1) (ih rs (belowE_cons b).2)
theorem NsR.ren{es:List (List Nat×V)}{r:List DictEntry}(x:NsR n ρ h (renE σ es) r)(b:belowE n' es=true):NsR n' (λk=>ρ (σ k)) h es r:=by
 induction es generalizing r with
 |nil=>rw[show r=[]from x.invL];exact .nil
 |cons p es ih=>exact E45 x.invL λy t e ys q q1 q2 rv rs=>q▸ .cons y t q1 q2 (VR.ren rv (belowE_cons b).1) (ih rs (belowE_cons b).2)
theorem OAt.ren{prog:Program}{w:World}{a:Addr}{o:AO}(x:OAt prog w n ρ h a (renO σ o))(hb:belowO n' o=true):OAt prog w n' (λk=>ρ (σ k)) h a o:=by
 cases o with
 |list xs=>refine E22 x λits m e r=>?_;clear x;exact I22 its m e (r.ren hb)
 |inst C d=>
  refine E02 x λe _=>?_;clear x
  exact⟨e,Nat.le_of_ble_eq_true hb⟩
 |ns es=>refine E22 x λits m e r=>?_;clear x;exact I22 its m e (r.ren hb)
 |sd es=>refine E02 x λhs y9750=>?_;clear x;refine E12 y9750 λkvs e r=>?_;clear y9750;exact⟨hs,kvs,e,r.ren hb⟩
 |idt es=>refine E02 x λhs y9757=>?_;clear x;refine E12 y9757 λkvs e r=>?_;clear y9757;exact⟨hs,kvs,e,r.ren hb⟩
 |td es=>refine E02 x λhs y9764=>?_;clear x;refine E12 y9764 λkvs e r=>?_;clear y9764;exact⟨hs,kvs,e,r.ren hb⟩
end
section
variable{prog:Program}{w:World}
noncomputable def Cfg.to(c:Cfg prog w)(RD:List (Nat×AO))(B:Nat):Cfg prog w:=⟨c.KS,c.H0,c.TB,c.Tab,c.SR,c.mg,c.mb,RD,B,none⟩
theorem Cfg.Ok.to{c:Cfg prog w}(C:c.Ok)(RD:List (Nat×AO))(B:Nat):(c.to RD B).Ok:=⟨C.keys,C.stat,C.tb,C.sys,C.g,C.b,C.bn,C.tab,λp e=>by cases e⟩
variable{c:Cfg prog w}{RD:List (Nat×AO)}{B:Nat}{ρ:Nat→Addr}{st:St}{h:Heap}{σ:Nat→Nat}{H:List (Nat×AO)}{n':Nat}
theorem Has.of_rd{st:St}{k:Nat}{o:AO}(e:rdO k st=some o):Has k st.H∨Has k st.F:=by
 unfold rdO at e
 cases q:lk k st.H with
 |some o'=>exact .inl ⟨_,q⟩
 |none=>rw[q]at e;exact .inr ⟨_,e⟩
theorem RelH.ren(C:c.Ok)(R:RelH c ρ st h)
 (hH:∀p∈H,lk (σ p.1) st.H=some (renO σ p.2)∧belowO n' p.2=true∧p.1<n'∧B≤p.1)
 (hF:∀p∈RD,Mine.rdO (σ p.1) st=some (renO σ p.2)∧belowO n' p.2=true∧p.1<B)
 (inj:∀p∈H,∀q∈H++RD,p.1≠q.1→σ p.1≠σ q.1) (hB:B≤n'):RelH (c.to RD B) (λk=>ρ (σ k)) ⟨H,RD,n'⟩ h:=by
 have hasH:∀ {k},Has k H→∃p∈H,p.1=k:=λ⟨o,e⟩=>⟨_,lk_mem e,rfl⟩
 have hasF:∀ {k},Has k RD→∃p∈RD,p.1=k:=λ⟨o,e⟩=>⟨_,lk_mem e,rfl⟩
 have goH:∀ {k},Has k H→Has (σ k) st.H:=λhk=>by
  refine E12 (hasH hk) λp hp q9904=>?_;clear C R hF inj hB hasH hasF hk;subst q9904
  exact I11 _ ((hH p hp).1)
 have goF:∀ {k},Has k RD→Has (σ k) st.H∨Has (σ k) st.F:=λhk=>by
  refine E12 (hasF hk) λp hp q9925=>?_;clear C R hH inj hB hasH hasF goH hk;subst q9925
  exact Has.of_rd (hF p hp).1
 refine⟨R.ks,R.nol,R.old,R.still,R.tab,λk o e=>?_,λk o e=>?_,λk k' hne hk hk'=>?_,λk hk=>?_,λk hk=>R.low _ (goH hk),λk hk=>?_,λk hk=>?_,⟨[],rfl,λp hp=>by cases hp⟩,λk hk=>?_,hB⟩
 ·have:=hH _ (lk_mem e)
  exact(R.obj _ _ this.1).ren this.2.1
 ·have:=hF _ (lk_mem e)
  exact(R.rdO this.1).ren this.2.1
 ·refine E12 (hasH hk) λp hp q9974=>?_;subst q9974
  obtain⟨q,hq,rfl⟩:∃q∈H++RD,q.1=k':=by
   rcases hk' with z|z
   ·refine E12 (hasH z) λq hq e=>?_;exact I12 q (List.mem_append_left _ hq) e
   ·refine E12 (hasF z) λq hq e=>?_;exact I12 q (List.mem_append_right _ hq) e
  refine R.inj _ _ (inj p hp q hq hne) (goH hk) ?_
  rcases hk' with z|z
  ·exact .inl (goH z)
  ·exact goF z
 ·refine E12 (hasH hk) λp hp q937=>?_;clear C R inj hB hasH hasF goH goF hk;subst q937
  refine lk_none_of λq hq e=>?_
  have h1:=(hF q hq).2.2
  have h2:=(hH p hp).2.2.2
  lia
 ·rcases hk with hk|hk
  ·refine E12 (hasH hk) λp hp q979=>?_;clear C R hF inj hB hasH hasF goH goF hk;subst q979;exact(hH p hp).2.2.1
  ·refine E12 (hasF hk) λp hp q986=>?_;clear C R hH inj hasH hasF goH goF hk;subst q986;exact Nat.lt_of_lt_of_le (hF p hp).2.2 hB
 ·rcases goF hk with⟨o,e⟩|z
  ·intro z
   refine E11 (C.tb _ z) λob ho=>?_
   have:=R.low _ ⟨o,e⟩
   exact nn this ho
  ·exact R.ntbF _ z
 ·refine E12 (hasH hk) λp hp q9135=>?_;clear C R hF inj hB hasH hasF goH goF hk;subst q9135;exact(hH p hp).2.2.2
theorem LocR.ren{env:Env}{nl:List PySem.Str}{l l':Loc}{st':St}(L:LocR c env nl l ρ st h)(hl:∀p∈l',lk p.1 l=some (renV σ p.2)∧V.clo st'.n p.2=true)(hs:∀k,Has k st'.H∨Has k st'.F→Has (σ k) st.H∨Has (σ k) st.F):LocR (c.to RD B) env nl l' (λk=>ρ (σ k)) st' h:=
 ⟨L.nd,λi v e=>by
   obtain⟨h1,h2⟩:=hl _ (lk_mem e)
   obtain⟨x,v',a,b,r⟩:=L.var i _ h1
   exact⟨x,v',a,b,r.ren h2⟩,L.lns,L.cel,L.low,L.lowc,λk hk=>L.sep _ (hs k hk),λk hk=>L.sepc _ (hs k hk),L.clc,L.inj⟩
end
structure Ready (l:Loc) (st:St) (wd:List Nat) (text:List Int) (kt kw ku c0 c1:Nat):Prop where
 g1:lk 1 l=some (.ref 4)
 g2:lk 2 l=some (.ref 6)
 g3:lk 3 l=some (.ref kt)
 g4:lk 4 l=some (.str wd)
 g5:lk 5 l=some (.ref kw)
 g6:lk 6 l=some (.ref ku)
 D:Dk st 4 3 200
 rd:∀p∈RD1,lk (sig0 p.1) st.H=some (renO sig0 p.2)
 t:lk kt st.H=some (.list (zV text))
 w:lk kw st.H=some (.list (zV text))
 u:lk ku st.H=some (.list (zV [(c0:Int),(c1:Int)]))
 o1:114≤kt
 o2:kt<kw
 o3:kw<ku
 hm:∀c∈text,c∈menu
 hn:text.length≤12
 hc:c0≤c1
 hc1:c1≤text.length
 hw:wd∈wordsL
theorem sig_lt:∀p∈RD1,sig0 p.1<114∧sig0 p.1≠4∧sig0 p.1≠3:=by
 have:(RD1.all λp=>Nat.blt (sig0 p.1) 114&&(!Nat.beq (sig0 p.1) 4&& !Nat.beq (sig0 p.1) 3))=true:=by kernel_rfl
 intro p hp
 have h:=List.all_eq_true.mp this p hp
 rw[Bool.and_eq_true,Bool.and_eq_true]at h
 refine I03 (Nat.le_of_ble_eq_true h.1) (λe=>?_) (λe=>?_)
 ·rw[e]at h;exact absurd h.2.1 (by decide)
 ·rw[e]at h;exact absurd h.2.2 (by decide)
theorem first_run(a:Addr)(sc:List Int):∃l0 s0 l1 s1 l2 s2 l3 s3 wd text kt kw ku c0 c1,m_law_0 (XC0 (a,sc)) [(0,.adr a)] ⟨[],[],1⟩=some ((l0,.next),s0)∧m_law_1 (XC0 (a,sc)) l0 s0=some ((l1,.next),s1)∧m_law_2 (XC0 (a,sc)) l1 s1=some ((l2,.next),s2)∧m_law_3 (XC0 (a,sc)) l2 s2=some ((l3,.next),s3)∧Ready l3 s3 wd text kt kw ku c0 c1:=by
 refine bc λhno=>?_;obtain⟨o3,o2,o1,cs,m,d1,d2,d3,d4,d5⟩:=deck_run (X:=XC0 (a,sc)) rfl
 have ev:=data_ev (a,sc) (dkO 3 m 0) o3 o2 o1
 cases e:f_law_data (XC0 (a,sc)) [] ⟨[(4,dkO 3 m 0),(3,o3),(2,o2),(1,o1)],[],5⟩ with
 |none=>rw[e]at ev;exact nos ev
 |some p=>
  obtain⟨v,s0⟩:=p
  rw[e]at ev
  have ev':=Option.some.inj ev
  obtain⟨e1,q1⟩:=Prod.mk.inj ev'
  obtain⟨e2,q2⟩:=Prod.mk.inj q1
  obtain⟨e3,q3⟩:=Prod.mk.inj q2
  obtain⟨e4,e5⟩:=Prod.mk.inj q3
  clear q1 q2 q3
  dsimp only at e1 e2 e3 e4 e5
  subst e1
  have a0:m_law_0 (XC0 (a,sc)) [(0,.adr a)] ⟨[],[],1⟩=some (([(0,.adr a),(1,.ref 4),(2,.ref 6)],.next),s0):=r_asg (r_tup (r_esC (r_call (r_esC (r_gt rfl) r_esN) d1) (r_esC (r_call r_esN e) r_esN)) rfl) rfl
  have D0:Dk s0 4 3 0:=⟨⟨cs,m,0,e3,by rw[e4,d2],d4,d5,by decide,by decide,d3⟩,by omega,by omega,by decide⟩
  have rd0:∀p∈RD1,lk (sig0 p.1) s0.H=some (renO sig0 p.2):=List.map_inj_left.mp e5
  clear ev ev' e e3 e4 e5 d1
  obtain⟨l1,s1,kt,text,a1,b1,b2,b3,b4,b5,b6,b7,b8,b9⟩:=law1_run (X:=XC0 (a,sc)) (l:=[(0,.adr a),(1,.ref 4),(2,.ref 6)]) rfl D0 (by decide) rfl
  have g1:lk 1 l1=some (.ref 4):=b2 1 (by decide)
  have nP:∀ {j},114≤j→¬(j=4∨j=3):=λh q=>by omega
  have hkt:114≤kt:=by omega
  obtain⟨s2,wd,kw,a2,c1,c2,c3,c4,c5,c6⟩:=law2_run (X:=XC0 (a,sc)) b6 (by decide) g1 b1 (rdO_H b3) b9 (by omega) (by omega) b5
  have le4:=c4.le
  have le7:=b7.le
  have t2:=c4.lk b3 b9 (nP hkt)
  have h1:lk 1 (stRev [4,5] [.str wd,.ref kw] l1)=some (.ref 4):=lk_other rfl (lk_other rfl g1)
  have h3:lk 3 (stRev [4,5] [.str wd,.ref kw] l1)=some (.ref kt):=lk_other rfl (lk_other rfl b1)
  obtain⟨s3,ku,x0,x1,a3,f1,f2,f3,f4,f5,f6,f7⟩:=law3_run (X:=XC0 (a,sc)) c3 (by decide) h1 h3 (rdO_H t2) (by omega) (by omega) (by omega) b5
  have le5:=f5.le
  refine hno ?_;refine⟨_,s0,l1,s1,_,s2,_,s3,wd,text,kt,kw,ku,x0,x1,a0,a1,a2,a3,⟨lk_other rfl h1,lk_other rfl (lk_other rfl (lk_other rfl (b2 2 (by decide)))),lk_other rfl h3,lk_other rfl (lk_same _ _ _),lk_other rfl (lk_other rfl (lk_same _ _ _)),lk_same _ _ _,f4.more (by decide),λp hp=>?_,f5.lk t2 (by omega) (nP hkt),f5.lk c2 c6 (nP (by omega)),f1,hkt,by omega,by omega,b4,b5,f2,f3,c1⟩⟩
  obtain⟨z1,z2,z3⟩:=sig_lt p hp
  have nQ:¬(sig0 p.1=4∨sig0 p.1=3):=λq=>by rcases q with q|q;exact z2 q;exact z3 q
  exact f5.lk (c4.lk (b7.lk (rd0 p hp) (by omega) nQ) (by omega) nQ) (by omega) nQ
noncomputable def sig1(kt kw ku k:Nat):Nat:=(hsL++[4,3,kt,kw,ku]).getD k 0
noncomputable def H1(o14 o15:AO)(text:List Int)(c0 c1:Nat):List (Nat×AO):=[(14,o14),(15,o15),(16,.list (zV text)),(17,.list (zV text)),(18,.list (zV [(c0:Int),(c1:Int)]))]
noncomputable def L1'(wd:List Nat):Loc:=[(1,.ref 14),(2,.ref 0),(3,.ref 16),(4,.str wd),(5,.ref 17),(6,.ref 18)]
set_option maxRecDepth 100000 in
theorem rd_same(kt kw ku:Nat):RD1.map (λp=>(sig1 kt kw ku p.1,renO (sig1 kt kw ku) p.2))=RD1.map (λp=>(sig0 p.1,renO sig0 p.2)):=by kernel_rfl
theorem rd1_ok:∀p∈RD1,p.1<14∧belowO 14 p.2=true:=by
 have:(RD1.all λp=>Nat.blt p.1 14&&belowO 14 p.2)=true:=by kernel_rfl
 intro p hp
 have h:=List.all_eq_true.mp this p hp
 rw[Bool.and_eq_true]at h
 exact⟨Nat.le_of_ble_eq_true h.1,h.2⟩
theorem nd_ne{L:List Nat}(h:L.Nodup){i j:Nat}(hi:i<L.length)(hj:j<L.length)(hne:i≠j):L.getD i 0≠L.getD j 0:=by
 rw[List.getD_eq_getElem?_getD,List.getD_eq_getElem?_getD,List.getElem?_eq_getElem hi,List.getElem?_eq_getElem hj]
 have hp:=List.pairwise_iff_getElem.mp h
 intro e
 rcases Nat.lt_or_gt_of_ne hne with q|q
 ·exact hp i j hi hj q (Option.some.inj (by simpa using e))
 ·exact hp j i hj hi q (Option.some.inj (by simpa using e.symm))
theorem sig1_nd{kt kw ku:Nat}(o1:114≤kt)(o2:kt<kw)(o3:kw<ku):(hsL++[4,3,kt,kw,ku]).Nodup:=by
 have e:hsL++[4,3,kt,kw,ku]=(hsL++[4,3])++[kt,kw,ku]:=rfl
 rw[e]
 refine List.nodup_append.mpr ⟨by decide,?_,λa ha b hb=>?_⟩
 ·simp only[List.nodup_cons,List.mem_cons,List.not_mem_nil,or_false,not_false_eq_true,List.nodup_nil,and_true];omega
 ·have h1:∀a∈hsL++[4,3],a<114:=by decide
  have h2:=h1 a ha
  simp only[List.mem_cons,List.not_mem_nil,or_false]at hb
  omega
theorem below_zV(B:Nat)(a:List Int):belowO B (.list (zV a))=true:=clos_zV a
theorem below_mono_dk{B kc:Nat}{m t:Int}(h:kc<B):belowO B (dkO kc m t)=true:=by
 have:Nat.blt kc B=true:=Nat.ble_eq_true_of_le h
 show(match V.clo B (.ref kc)with|true=>_|false=>false)=true
 rw[V.clo,this]
 simp[belowE,V.clo]
section
variable{prog:Program}{w:World}{c:Cfg prog w}{ρ:Nat→Addr}{h:Heap}{l:Loc}{st:St}{wd:List Nat}{text:List Int}{kt kw ku c0 c1:Nat}
theorem Ready.go(Y:Ready l st wd text kt kw ku c0 c1)(C:c.Ok)(R:RelH c ρ st h){env:Env}{nl:List PySem.Str}(X:LocR c env nl l ρ st h):
 ∃cs m t,0≤m∧m<2147483587∧0≤t∧t≤200∧cs.length≤16∧RelH (c.to RD1 14) (λk=>ρ (sig1 kt kw ku k)) ⟨H1 (dkO 15 m t) (.list (zV cs)) text c0 c1,RD1,19⟩ h∧LocR (c.to RD1 14) env nl (L1' wd) (λk=>ρ (sig1 kt kw ku k)) ⟨H1 (dkO 15 m t) (.list (zV cs)) text c0 c1,RD1,19⟩ h:=by
 refine E37 Y.D.ex λcs m t e1 e2 e3 e4 e5 e6 e7=>?_
 have same:=List.map_inj_left.mp (rd_same kt kw ku)
 have nd:=sig1_nd Y.o1 Y.o2 Y.o3
 have inH:∀p∈H1 (dkO 15 m t) (.list (zV cs)) text c0 c1,p.1<19:=by
  intro p hp
  simp only[H1,List.mem_cons,List.not_mem_nil,or_false]at hp
  rcases hp with rfl|rfl|rfl|rfl|rfl
  ·exact(by decide:14<19)
  ·exact(by decide:15<19)
  ·exact(by decide:16<19)
  ·exact(by decide:17<19)
  ·exact(by decide:18<19)
 have hF:∀p∈RD1,rdO (sig1 kt kw ku p.1) st=some (renO (sig1 kt kw ku) p.2)∧belowO 19 p.2=true∧p.1<14:=by
  intro p hp
  refine E02 (Prod.mk.inj (same p hp)) λs1 s2=>?_
  refine E02 (rd1_ok p hp) λb1 b2=>?_
  refine I03 ?_ ?_ b1
  ·rw[s1,s2];exact rdO_H (Y.rd p hp)
  ·have:(RD1.all λp=>belowO 19 p.2)=true:=by kernel_rfl
   exact List.all_eq_true.mp this p hp
 have hH:∀p∈H1 (dkO 15 m t) (.list (zV cs)) text c0 c1,lk (sig1 kt kw ku p.1) st.H=some (renO (sig1 kt kw ku) p.2)∧belowO 19 p.2=true∧p.1<19∧14≤p.1:=by
  intro p hp
  simp only[H1,List.mem_cons,List.not_mem_nil,or_false]at hp
  have rl:∀a,renO (sig1 kt kw ku) (.list (zV a))=.list (zV a):=λa=>congrArg AO.list (renVs_zV _ a)
  rcases hp with rfl|rfl|rfl|rfl|rfl
  ·exact I04 e1 (below_mono_dk (by decide)) (by decide:14<19) (by decide:14≤14)
  ·exact I04 (by rw[rl];exact e2) (below_zV _ _) (by decide:15<19) (by decide:14≤15)
  ·exact I04 (by rw[rl];exact Y.t) (below_zV _ _) (by decide:16<19) (by decide:14≤16)
  ·exact I04 (by rw[rl];exact Y.w) (below_zV _ _) (by decide:17<19) (by decide:14≤17)
  ·exact I04 (by rw[rl];exact Y.u) (below_zV _ _) (by decide:18<19) (by decide:14≤18)
 refine I37 cs m t e3 e4 e5 (by omega) e7 (RelH.ren C R hH hF (λp hp q hq hne=>?_) (by decide)) (LocR.ren X (λp hp=>?_) λk hk=>?_)
 ·refine nd_ne nd (inH p hp) ?_ hne
  rcases List.mem_append.mp hq with z|z
  ·exact inH q z
  ·exact Nat.lt_trans (rd1_ok q z).1 (by show 14<19;decide)
 ·simp only[L1',List.mem_cons,List.not_mem_nil,or_false]at hp
  rcases hp with rfl|rfl|rfl|rfl|rfl|rfl
  ·exact⟨Y.g1,by show V.clo 19 _=true;kernel_rfl⟩
  ·exact⟨Y.g2,by show V.clo 19 _=true;kernel_rfl⟩
  ·exact⟨Y.g3,by show V.clo 19 _=true;kernel_rfl⟩
  ·exact⟨Y.g4,by show V.clo 19 _=true;simp[V.clo]⟩
  ·exact⟨Y.g5,by show V.clo 19 _=true;kernel_rfl⟩
  ·exact⟨Y.g6,by show V.clo 19 _=true;kernel_rfl⟩
 ·rcases hk with⟨o,e⟩|⟨o,e⟩
  ·exact .inl ⟨_,(hH _ (lk_mem e)).1⟩
  ·exact Has.of_rd (hF _ (lk_mem e)).1
end
noncomputable def S1(o14 o15:AO)(text:List Int)(c0 c1:Nat):St:=⟨H1 o14 o15 text c0 c1,RD1,19⟩
theorem form1{wd:List Nat}{w cm:Bool}(W:WD X1 wd w cm){o14 o15:AO}{text:List Int}{c0 c1:Nat}(hm:∀c∈text,c∈menu)(hn:text.length≤12):pureM X1.RD X1.B (f_law_form X1) [.ref 16,.str wd] (S1 o14 o15 text c0 c1)=some (.ref 19,(S1 o14 o15 text c0 c1).add (.list (zV (pform w cm text)))):=by
 refine E23 (lf_run (X:=X1) rfl (k0:=X1.B+0) (ts:=text) (st:=⟨[],[(X1.B+0,.list (zV text))]++X1.RD,X1.B+2⟩) W hap1 hm (rdO_F rfl (lk_head _ _ _)) (by show X1.B+0<X1.B+2;lia) (by show X1.B≤X1.B+2;lia) (by lia)) λst2 k r1 r2 r3=>?_
 rw[lform_pform]at r2
 exact r_pureL (st:=S1 o14 o15 text c0 c1) (canon_list (k:=16) (by decide) (rdO_H rfl) (clos_zV _) (canon_clo rfl rfl)) r1 r3 r2 (clos_zV _)
noncomputable def S2(o14 o15 o19:AO)(text:List Int)(c0 c1:Nat):St:=⟨(19,o19)::H1 o14 o15 text c0 c1,RD1,20⟩
theorem fs_d{wd:List Nat}(hw:wd=wNfd∨wd=wNfkd)(o14 o15 o19:AO)(text:List Int)(c0 c1:Nat):mkI 258 (f_FormStream_init X1) [.ref 0,.str wd] (S2 o14 o15 o19 text c0 c1)=some (.ref 21,⟨(22,.list [])::(21,.inst 258 20)::(20,.ns (sEs .none wd 22))::(19,o19)::H1 o14 o15 text c0 c1,RD1,23⟩):=by
 rcases hw with rfl|rfl <;> kernel_rfl
theorem law4_run{v:V}{wd:List Nat}{w cm:Bool}(W:WD X1 wd w cm){o14 o15:AO}{text:List Int}{c0 c1:Nat}{s:St}(hm:∀c∈text,c∈menu)(hn:text.length≤12)(hf:mkI 258 (f_FormStream_init X1) [.ref 0,.str wd] (S2 o14 o15 (.list (zV (pform w cm text))) text c0 c1)=some (v,s)):
 m_law_4 X1 (L1' wd) (S1 o14 o15 text c0 c1)=some ((stRev [7,8,9] [.ref 19,v,.ref s.n] (L1' wd),.next),s.add (.list [])):=
 r_asgR (r_tup (r_esC (r_call (r_esC (r_gt rfl) (r_esC (r_gt rfl) r_esN)) (form1 W hm hn)) (r_esC (r_call (r_esC (r_gt rfl) (r_esC (r_gt rfl) r_esN)) hf) (r_esC (r_lst1 (vs:=[]) r_esN (Nat.zero_le _)) r_esN))) rfl) rfl
theorem Dk1{st:St}{kd kc:Nat}{cs:List Int}{m t:Int}(h1:lk kd st.H=some (dkO kc m t))(h2:lk kc st.H=some (.list (zV cs)))(m1:0≤m)(m2:m<2147483587)(t1:0≤t)(t2:t≤200)(hc:cs.length≤16)(a:kd<st.n)(b:kc<st.n)(d:kd≠kc):Dk st kd kc 200:=
 ⟨⟨cs,m,t,h1,h2,m1,m2,t1,by omega,hc⟩,a,b,d⟩
theorem end_d{wd:List Nat}{w:Bool}(hw:wd=wNfd∨wd=wNfkd)(G:Gr X1 .none wd w false){text cs:List Int}{c0 c1:Nat}{m t:Int}(m1:0≤m)(m2:m<2147483587)(t1:0≤t)(t2:t≤200)(hcs:cs.length≤16)(hm:∀c∈text,c∈menu)(hn:text.length≤12)(hc:c0≤c1)(hc1:c1≤text.length):
 ∃l2 st2,law5to X1 (stRev [7,8,9] [.ref 19,.ref 21,.ref 23] (L1' wd)) ⟨(23,.list [])::(22,.list [])::(21,.inst 258 20)::(20,.ns (sEs .none wd 22))::(19,.list (zV (pform w false text)))::H1 (dkO 15 m t) (.list (zV cs)) text c0 c1,RD1,24⟩=some ((l2,.ret (.bool true)),st2):=by
 have S:Str X1 .none wd ⟨(23,.list [])::(22,.list [])::(21,.inst 258 20)::(20,.ns (sEs .none wd 22))::(19,.list (zV (pform w false text)))::H1 (dkO 15 m t) (.list (zV cs)) text c0 c1,RD1,24⟩ 21 20 22 []:=
  ⟨rfl,rfl,rfl,(by decide:21<24),(by decide:20<24),(by decide:22<24),(by decide:14≤22),by decide,by decide,by decide⟩
 refine rest_run (kt:=16) (kw:=17) (ku:=18) (kd:=14) (kc:=15) (T:=200) (ks:=21) (kdS:=20) (kh:=22) (kdu:=19) (kto:=23) G rfl (hst1 hw) ⟨rfl,rfl,rfl,S,rfl,(by decide:19<24),by decide,by decide,(by decide:14≤19),rfl,(by decide:23<24),by decide,by decide,(by decide:14≤23),(by decide:14≤24)⟩ (Dk1 rfl rfl m1 m2 t1 t2 hcs (by decide:14<24) (by decide:15<24) (by decide)) (by decide) rfl rfl rfl rfl rfl rfl rfl (by decide:16<24) (by decide:17<24) (by decide:18<24) (by decide:14≤16) (by decide) (by decide) (by decide) (by decide) (by decide) (by decide) (by decide) (by decide) (by decide) (by decide) hm hn hc hc1
noncomputable def hs2:List Nat:=[0,1,2,3,4,5,6,7,8,9,10,11,12,13,23,22,24,27,14,15,16,17,18,19,21,20,28,29]
noncomputable def sig2(k:Nat):Nat:=hs2.getD k 0
noncomputable def rd2Map(st:St):List (Option AO):=RD2.map λp=>rdO (sig2 p.1) st
noncomputable def rd2Want:List (Option AO):=RD2.map λp=>some (renO sig2 p.2)
set_option maxRecDepth 100000 in
theorem fs_c{wd:List Nat}(hw:wd=wNfc∨wd=wNfkc)(o14 o15 o19:AO)(text:List Int)(c0 c1:Nat):(mkI 258 (f_FormStream_init X1) [.ref 0,.str wd] (S2 o14 o15 o19 text c0 c1)).map (λp=>(p.1,p.2.n,[14,15,16,17,18,19,21,20,28].map (λk=>lk k p.2.H),rd2Map (p.2.add (.list []))))=
 some (.ref 21,29,[some o14,some o15,some (.list (zV text)),some (.list (zV text)),some (.list (zV [(c0:Int),(c1:Int)])),some o19,some (.inst 258 20),some (.ns (sEs (.ref 23) wd 28)),some (.list [])],rd2Want):=by
 rcases hw with rfl|rfl <;> kernel_rfl
noncomputable def H2(o18 o19 o23:AO)(text:List Int)(c0 c1:Nat)(wd:List Nat):List (Nat×AO):=[(18,o18),(19,o19),(20,.list (zV text)),(21,.list (zV text)),(22,.list (zV [(c0:Int),(c1:Int)])),(23,o23),(24,.inst 258 25),(25,.ns (sEs (.ref 14) wd 26)),(26,.list []),(27,.list [])]
noncomputable def L2'(wd:List Nat):Loc:=[(1,.ref 18),(2,.ref 0),(3,.ref 20),(4,.str wd),(5,.ref 21),(6,.ref 22),(7,.ref 23),(8,.ref 24),(9,.ref 27)]
theorem end_c{wd:List Nat}{w:Bool}(hw:wd=wNfc∨wd=wNfkc)(G:Gr X2 (.ref 14) wd w true){text cs:List Int}{c0 c1:Nat}{m t:Int}(m1:0≤m)(m2:m<2147483587)(t1:0≤t)(t2:t≤200)(hcs:cs.length≤16)(hm:∀c∈text,c∈menu)(hn:text.length≤12)(hc:c0≤c1)(hc1:c1≤text.length):
 ∃l2 st2,law5to X2 (L2' wd) ⟨H2 (dkO 19 m t) (.list (zV cs)) (.list (zV (pform w true text))) text c0 c1 wd,RD2,28⟩=some ((l2,.ret (.bool true)),st2):=by
 have S:Str X2 (.ref 14) wd ⟨H2 (dkO 19 m t) (.list (zV cs)) (.list (zV (pform w true text))) text c0 c1 wd,RD2,28⟩ 24 25 26 []:=
  ⟨rfl,rfl,rfl,(by decide:24<28),(by decide:25<28),(by decide:26<28),(by decide:18≤26),by decide,by decide,by decide⟩
 refine rest_run (kt:=20) (kw:=21) (ku:=22) (kd:=18) (kc:=19) (T:=200) (ks:=24) (kdS:=25) (kh:=26) (kdu:=23) (kto:=27) G rfl (hst2 hw) ⟨rfl,rfl,rfl,S,rfl,(by decide:23<28),by decide,by decide,(by decide:18≤23),rfl,(by decide:27<28),by decide,by decide,(by decide:18≤27),(by decide:18≤28)⟩ (Dk1 rfl rfl m1 m2 t1 t2 hcs (by decide:18<28) (by decide:19<28) (by decide)) (by decide) rfl rfl rfl rfl rfl rfl rfl (by decide:20<28) (by decide:21<28) (by decide:22<28) (by decide:18≤20) (by decide) (by decide) (by decide) (by decide) (by decide) (by decide) (by decide) (by decide) (by decide) (by decide) hm hn hc hc1
section
variable{prog:Program}{W:World}{c:Cfg prog W}{ρ:Nat→Addr}{h:Heap}{wd:List Nat}{text cs:List Int}{c0 c1:Nat}{m t:Int}{o23:AO}
theorem go2{s:St}(hw:wd=wNfc∨wd=wNfkc)(hs:mkI 258 (f_FormStream_init X1) [.ref 0,.str wd] (S2 (dkO 15 m t) (.list (zV cs)) o23 text c0 c1)=some (.ref 21,s))(ho:∃a,o23=.list (zV a))(C:c.Ok)(R:RelH c ρ (s.add (.list [])) h){env:Env}{nl:List PySem.Str}(X:LocR c env nl (stRev [7,8,9] [.ref 19,.ref 21,.ref s.n] (L1' wd)) ρ (s.add (.list [])) h):
 RelH (c.to RD2 18) (λk=>ρ (sig2 k)) ⟨H2 (dkO 19 m t) (.list (zV cs)) o23 text c0 c1 wd,RD2,28⟩ h∧LocR (c.to RD2 18) env nl (L2' wd) (λk=>ρ (sig2 k)) ⟨H2 (dkO 19 m t) (.list (zV cs)) o23 text c0 c1 wd,RD2,28⟩ h:=by
 refine bc λhno=>?_;refine E11 ho λa q9393=>?_;clear ho;subst q9393
 have ev:=fs_c hw (dkO 15 m t) (.list (zV cs)) (.list (zV a)) text c0 c1
 rw[hs]at ev
 refine E02 (Prod.mk.inj (Option.some.inj ev)) λ_ q1=>?_
 refine E02 (Prod.mk.inj q1) λen q2=>?_
 refine E02 (Prod.mk.inj q2) λel er=>?_
 dsimp only at en el er
 clear ev q1 q2
 rw[en]at X
 simp only[List.map_cons,List.map_nil,List.cons.injEq,and_true]at el
 refine E09 el λf14 f15 f16 f17 f18 f19 f21 f20 f28=>?_;clear el
 have old:∀ {k:Nat} {o:AO},k<29→lk k s.H=some o→lk k (s.add (.list [])).H=some o:=λhk e=>(lkH_old (by lia)).trans e
 have f29:lk 29 (s.add (.list [])).H=some (.list []):=by have:=lkH_new s (.list []);rw[en]at this;exact this
 have rl:∀a,renO sig2 (.list (zV a))=.list (zV a):=λa=>congrArg AO.list (renVs_zV _ a)
 have hF:∀p∈RD2,rdO (sig2 p.1) (s.add (.list []))=some (renO sig2 p.2)∧belowO 28 p.2=true∧p.1<18:=by
  intro p hp
  have h1:=List.map_inj_left.mp er p hp
  have:(RD2.all λp=>belowO 28 p.2&&Nat.blt p.1 18)=true:=by kernel_rfl
  have h2:=List.all_eq_true.mp this p hp
  rw[Bool.and_eq_true]at h2
  exact I03 h1 h2.1 (Nat.le_of_ble_eq_true h2.2)
 have hH:∀p∈H2 (dkO 19 m t) (.list (zV cs)) (.list (zV a)) text c0 c1 wd,lk (sig2 p.1) (s.add (.list [])).H=some (renO sig2 p.2)∧belowO 28 p.2=true∧p.1<28∧18≤p.1:=by
  intro p hp
  simp only[H2,List.mem_cons,List.not_mem_nil,or_false]at hp
  rcases hp with rfl|rfl|rfl|rfl|rfl|rfl|rfl|rfl|rfl|rfl
  ·exact I04 (old (by decide:14<29) f14) (below_mono_dk (by decide)) (by decide:18<28) (by decide:18≤18)
  ·exact I04 (by rw[rl];exact old (by decide:15<29) f15) (below_zV _ _) (by decide:19<28) (by decide:18≤19)
  ·exact I04 (by rw[rl];exact old (by decide:16<29) f16) (below_zV _ _) (by decide:20<28) (by decide:18≤20)
  ·exact I04 (by rw[rl];exact old (by decide:17<29) f17) (below_zV _ _) (by decide:21<28) (by decide:18≤21)
  ·exact I04 (by rw[rl];exact old (by decide:18<29) f18) (below_zV _ _) (by decide:22<28) (by decide:18≤22)
  ·exact I04 (by rw[rl];exact old (by decide:19<29) f19) (below_zV _ _) (by decide:23<28) (by decide:18≤23)
  ·exact I04 (old (by decide:21<29) f21) rfl (by decide:24<28) (by decide:18≤24)
  ·exact I04 (old (by decide:20<29) f20) (by simp[belowO,belowE,sEs,V.clo];decide) (by decide:25<28) (by decide:18≤25)
  ·exact I04 (old (by decide:28<29) f28) rfl (by decide:26<28) (by decide:18≤26)
  ·exact I04 f29 rfl (by decide:27<28) (by decide:18≤27)
 have nd:hs2.Nodup:=by decide
 refine hno ?_;refine⟨RelH.ren C R hH hF (λp hp q hq hne=>?_) (by decide),LocR.ren X (λp hp=>?_) λk hk=>?_⟩
 ·refine nd_ne nd (hH p hp).2.2.1 ?_ hne
  rcases List.mem_append.mp hq with z|z
  ·exact(hH q z).2.2.1
  ·exact Nat.lt_trans (hF q z).2.2 (by show 18<28;decide)
 ·simp only[L2',List.mem_cons,List.not_mem_nil,or_false]at hp
  rcases hp with rfl|rfl|rfl|rfl|rfl|rfl|rfl|rfl|rfl
  ·exact⟨rfl,by show V.clo 28 _=true;kernel_rfl⟩
  ·exact⟨rfl,by show V.clo 28 _=true;kernel_rfl⟩
  ·exact⟨rfl,by show V.clo 28 _=true;kernel_rfl⟩
  ·exact⟨rfl,by show V.clo 28 _=true;simp[V.clo]⟩
  ·exact⟨rfl,by show V.clo 28 _=true;kernel_rfl⟩
  ·exact⟨rfl,by show V.clo 28 _=true;kernel_rfl⟩
  ·exact⟨rfl,by show V.clo 28 _=true;kernel_rfl⟩
  ·exact⟨rfl,by show V.clo 28 _=true;kernel_rfl⟩
  ·exact⟨rfl,by show V.clo 28 _=true;kernel_rfl⟩
 ·rcases hk with⟨o,e⟩|⟨o,e⟩
  ·exact .inl ⟨_,(hH _ (lk_mem e)).1⟩
  ·exact Has.of_rd (hF _ (lk_mem e)).1
end
section
variable{prog:Program}{w:World}{c:Cfg prog w}
theorem LamTab.to{pos:Pos}{qual:PySem.Str}(U:LamTab c pos qual)(RD:List (Nat×AO))(B:Nat):LamTab (c.to RD B) pos qual:=⟨U.hd,U.t0,U.tb,U.tab,U.bm⟩
theorem rdok1:RDok (c.to RD1 14):=rd1_ok
theorem rdok2:RDok (c.to RD2 18):=by
 have:(RD2.all λp=>Nat.blt p.1 18&&belowO 18 p.2)=true:=by kernel_rfl
 intro p hp
 have h:=List.all_eq_true.mp this p hp
 rw[Bool.and_eq_true]at h
 exact⟨Nat.le_of_ble_eq_true h.1,h.2⟩
noncomputable def lawSt(i:Nat):Stmt:=((topF 59).body)[i]?.getD (.Pass ⟨0,0,0,0⟩)
theorem law_sts:(topF 59).body=[lawSt 0,lawSt 1,lawSt 2,lawSt 3,lawSt 4,lawSt 5,lawSt 6,lawSt 7,lawSt 8,lawSt 9,lawSt 10]:=by kernel_rfl
theorem law_end{X:XP}(hx:c.xp=X)(C:c.Ok)(S:SRok c)(D:RDok c)(T:TX c.KS)(U:LamTab c lamP lamQ):SemB c (EC (topF 59).scope ["deck"]) nl_law 12 [lawSt 5,lawSt 6,lawSt 7,lawSt 8,lawSt 9,lawSt 10] (law5to X):=by
 subst hx
 exact SemB.cons C (s_law_5 C S D T U) (SemB.cons C (s_law_6 C S D T U) (SemB.cons C (s_law_7 C S D T U) (SemB.cons C (s_law_8 C S D T U) (SemB.cons C (s_law_9 C S D T U) (SemB.cons C (s_law_10 C S D T U) R.bN)))))
section
variable{ec:Env→Prop}{nl:List PySem.Str}{d:Nat}{bs:List Stmt}{A:Around}{env:Env}{l l':Loc}{ρ:Nat→Addr}{st st':St}{s:Shared}{Q:Flow→Shared→Prop}{E:Value→Shared→Prop}
theorem flN{n:Nat}{h:Heap}{f:Flow}(r:FlR n ρ h .next f):f=.next:=by cases r;rfl
theorem flT{n:Nat}{h:Heap}{f:Flow}(r:FlR n ρ h (.ret (.bool true)) f):f=.ret (.bool true):=by
 cases r with|ret rv=>exact congrArg _ rv.inv
theorem stp{b:Stmt}{f:Loc→M (Loc×Fl)}(h:SemS c ec nl d b f)(he:ec env)(hA:AOk d A)(R:RelH c ρ st s.heap)(L:LocR c env nl l ρ st s.heap)(a:f l st=some ((l',.next),st'))
 (k:∀ρ' h' tk,RelH c ρ' st' h'→LocR c env nl l' ρ' st' h'→wpAny (model prog w) A (execs bs env) Q E {s with heap:=h',toks:=tk}):wpAny (model prog w) A (execs (b::bs) env) Q E s:=
 wpAny_execs_cons (h A env l ρ st l' .next st' s _ E he hA R L a λρ' h' tk f N R L r=>by
  rw[flN r]
  exact k ρ' h' tk R L)
theorem fin{f:Loc→M (Loc×Fl)}(h:SemB c ec nl d bs f)(he:ec env)(hA:AOk d A)(R:RelH c ρ st s.heap)(L:LocR c env nl l ρ st s.heap)(a:f l st=some ((l',.ret (.bool true)),st'))
 (k:∀h' tk,OldK c.H0 h'→Q (.ret (.bool true)) {s with heap:=h',toks:=tk}):wpAny (model prog w) A (execs bs env) Q E s:=
 h A env l ρ st l' (.ret (.bool true)) st' s _ E he hA R L a λρ' h' tk f N R L r=>by
   rw[flT r]
   exact k h' tk R.old
end
theorem law_body(C:c.Ok)(S:SRok c)(T:TX c.KS)(U:LamTab c lamP lamQ){a:Addr}{sc:List Int}(hx:c.xp=XC0 (a,sc)){A:Around}{env:Env}{ρ:Nat→Addr}{s:Shared}{Q:Flow→Shared→Prop}{E:Value→Shared→Prop}
 (he:EC (topF 59).scope ["deck"] env) (hA:AOk 12 A) (R:RelH c ρ ⟨[],[],1⟩ s.heap) (L:LocR c env nl_law [(0,.adr a)] ρ ⟨[],[],1⟩ s.heap)
 (hQ:∀h' tk,OldK c.H0 h'→Q (.ret (.bool true)) {s with heap:=h',toks:=tk}):wpAny (model prog w) A (execs (topF 59).body env) Q E s:=by
 have hSR:c.SR=SR0:=congrArg XP.SR hx
 have D0:RDok c:=by
  have:c.RD=[]:=congrArg XP.RD hx
  intro p hp
  rw[this]at hp;cases hp
 obtain⟨l0,s0,l1,s1,l2,s2,l3,s3,wd,text,kt,kw,ku,c0,c1,a0,a1,a2,a3,Y⟩:=first_run a sc
 rw[←hx]at a0 a1 a2 a3
 rw[law_sts]
 refine stp (s:=s) (s_law_0 C S D0 T U) he hA R L a0 λρ0 h0 t0 R0 L0=>?_
 refine stp (s:={s with heap:=h0,toks:=t0}) (s_law_1 C S D0 T U) he hA R0 L0 a1 λρ1 h1 t1 R1 L1=>?_
 refine stp (s:={s with heap:=h1,toks:=t1}) (s_law_2 C S D0 T U) he hA R1 L1 a2 λρ2 h2 t2 R2 L2=>?_
 refine stp (s:={s with heap:=h2,toks:=t2}) (s_law_3 C S D0 T U) he hA R2 L2 a3 λρ3 h3 t3 R3 L3=>?_
 refine E37 (Y.go C R3 L3) λcs m t m1 m2 t1' t2' hcs R4 L4=>?_
 have x1:(c.to RD1 14).xp=X1:=by show XP.mk c.SR RD1 14 none=XP.mk SR0 RD1 14 none;rw[hSR]
 have x2:(c.to RD2 18).xp=X2:=by show XP.mk c.SR RD2 18 none=XP.mk SR0 RD2 18 none;rw[hSR]
 have C1:=C.to RD1 14
 have S1':SRok (c.to RD1 14):=S
 have U1:=U.to RD1 14
 have s4:=s_law_4 C1 S1' rdok1 T U1
 rw[x1]at s4
 have two:(wd=wNfd∨wd=wNfkd)∨(wd=wNfc∨wd=wNfkc):=by
  have:=Y.hw
  simp only[wordsL,List.mem_cons,List.not_mem_nil,or_false]at this
  rcases this with q|q|q|q
  ·exact .inl (.inl q)
  ·exact .inr (.inl q)
  ·exact .inl (.inr q)
  ·exact .inr (.inr q)
 rcases two with hw|hw
 ·obtain⟨b,W,G⟩:∃b,WD X1 wd b false∧Gr X1 .none wd b false:=by
   clear C S T U hx he hA R L hQ hSR D0 a0 a1 a2 a3 Y R0 L0 R1 L1 R2 L2 R3 L3 m1 m2 t1' t2' hcs R4 L4 x1 x2 C1 S1' U1 s4;rcases hw with rfl|rfl
   ·exact I12 false (wd_nfd rfl) gr_nfd
   ·exact I12 true (wd_nfkd rfl) gr_nfkd
  have a4:=law4_run W (o14:=dkO 15 m t) (o15:=.list (zV cs)) (c0:=c0) (c1:=c1) Y.hm Y.hn (fs_d hw _ _ _ _ _ _)
  refine stp (s:={s with heap:=h3,toks:=t3}) s4 he hA R4 L4 a4 λρ5 h5 t5 R5 L5=>?_
  refine E21 (end_d hw G m1 m2 t1' t2' hcs Y.hm Y.hn Y.hc Y.hc1) λl9 s9 a9=>?_
  exact fin (s:={s with heap:=h5,toks:=t5}) (law_end x1 C1 S1' rdok1 T U1) he hA R5 L5 a9 hQ
 ·obtain⟨b,W,G⟩:∃b,WD X1 wd b true∧Gr X2 (.ref 14) wd b true:=by
   clear C S T U hx he hA R L hQ hSR D0 a0 a1 a2 a3 Y R0 L0 R1 L1 R2 L2 R3 L3 m1 m2 t1' t2' hcs R4 L4 x1 x2 C1 S1' U1 s4;rcases hw with rfl|rfl
   ·exact I12 false (wd_nfc rfl) gr_nfc
   ·exact I12 true (wd_nfkc rfl) gr_nfkc
  have ev:=fs_c hw (dkO 15 m t) (.list (zV cs)) (.list (zV (pform b true text))) text c0 c1
  cases e:mkI 258 (f_FormStream_init X1) [.ref 0,.str wd] (S2 (dkO 15 m t) (.list (zV cs)) (.list (zV (pform b true text))) text c0 c1) with
  |none=>rw[e]at ev;exact nos ev
  |some p=>
   obtain⟨v,s5⟩:=p
   rw[e]at ev
   have hv:v=.ref 21:=(Prod.mk.inj (Option.some.inj ev)).1
   subst hv
   clear ev
   have a4:=law4_run W Y.hm Y.hn e
   refine stp (s:={s with heap:=h3,toks:=t3}) s4 he hA R4 L4 a4 λρ5 h5 t5 R5 L5=>?_
   refine E02 (go2 hw e ⟨_,rfl⟩ C1 R5 L5) λR6 L6=>?_
   refine E21 (end_c hw G m1 m2 t1' t2' hcs Y.hm Y.hn Y.hc Y.hc1) λl9 s9 a9=>?_
   exact fin (s:={s with heap:=h5,toks:=t5}) (law_end (c:=c.to RD2 18) x2 (C.to RD2 18) S rdok2 T (U.to RD2 18)) he hA R6 L6 a9 hQ
end
section
variable{prog:Program}{w:World}{c:Cfg prog w}{nl:List PySem.Str}{d:Nat}
theorem fnCore{fa:Addr}{name qual:PySem.Str}{params:Arguments}{body:List Stmt}{scope:Scope}{dV kV doc pm cdv ct oc:Value}{an od:Option Addr}{osl:Array (Option Value)}{names cn:List PySem.Str}{n:Nat}(C:c.Ok)
 (ho:c.KS.lookup fa=some ⟨oc,od,.func (fnOf name qual params body scope dV kV doc pm an cdv ct),osl⟩) (hcd:codeIn c.KS cdv qual=true)
 (hbind:∀(vals:List Value),vals.length=n→bindArgs (fnOf name qual params body scope dV kV doc pm an cdv ct) ⟨vals,[]⟩=pure (names.zip vals))
 (hloc:locC names cn scope=true) (hcl:∀k,(cn.all λx=>((cellsFrom k scope.names []).lookup x).isSome)=true) (hnl:headB names nl=true) (nd:nl.Nodup) (ndn:names.Nodup) (hlen:names.length=n)
 (hco:scope.isCoroutine=false) (hgen:scope.isGenerator=false) (hk:scope.kind=.function)
 {A:Around} {ρ:Nat→Addr} {st:St} {args:List V} {args':List Value} {s:Shared} {RR:Result→Shared→Prop} (hA:AOk (d+1) A) (R:RelH c ρ st s.heap) (ra:VRs st.n ρ s.heap args args') (hn:args.length=n)
 (hb:∀(A':Around) (env:Env) (h₀:Heap) (tk₀:Tok) (Q:Flow→Shared→Prop) (E:Value→Shared→Prop),EC scope cn env→AOk d A'→RelH c ρ st h₀→LocR c env nl (argsLoc 0 (args++[])) ρ st h₀→(∀h' tk,OldK c.H0 h'→Q (.ret (.bool true)) {s with heap:=h',toks:=tk})→wpAny (model prog w) A' (execs body env) Q E {s with heap:=h₀,toks:=tk₀})
 (hQ:∀h' tk,OldK c.H0 h'→RR (.ok (.ret (.bool true))) {s with heap:=h',toks:=tk}):codeAny (model prog w) A (.call (.ref fa) ⟨args',[]⟩) RR s:=by
 have hlen':args'.length=n:=by rw[ra.length,hn]
 have kinds:∀x∈names,scope.names.lookup x=some .local∨(scope.names.lookup x=some .cell∧x∈cn):=by
  intro x hx
  have:=List.all_eq_true.mp hloc x hx
  rw[Bool.or_eq_true,Bool.and_eq_true]at this
  rcases this with q|q
  ·exact .inl (eq_of_beq q)
  ·exact .inr ⟨eq_of_beq q.1,by simpa using q.2⟩
 have hcl':∀k,∀x∈cn,((cellsFrom k scope.names []).lookup x).isSome=true:=λk x hx=>List.all_eq_true.mp (hcl k) x hx
 have hkind:∀y∈names.zip args',scope.names.lookup y.1=some .local∨(scope.names.lookup y.1=some .cell∧((cellsFrom (s.heap.objs.size+1) scope.names []).lookup y.1).isSome=true):=by
  intro y hy
  rcases kinds y.1 (List.of_mem_zip hy).1 with q|⟨q,q'⟩
  ·exact .inl q
  ·exact .inr ⟨q,hcl' _ _ q'⟩
 refine codeAny_call_cells (fd:=fnOf name qual params body scope dV kV doc pm an cdv ct) (body:=body) (binds:=names.zip args') ?_ (R.ks _ _ ho) rfl R.nol (codeRec_of R.ks hcd) rfl (hbind args' hlen') rfl hkind (λs₁ IC=>?_) hco hgen hk
 ·have:=hA.2.1;first|exact Nat.lt_of_le_of_lt (Nat.le_add_right _ _) this|(show A.depth<recursionLimit;lia)
 ·refine bc λhno=>?_;obtain⟨⟨⟨h₀,tk₀,rfl⟩,hns,hk₀,hfr⟩,hcel,hap,hab⟩:=IC
  dsimp only at hns hk₀ hcel
  have N₀:=Nx.keep (c:=c) (fp:=NoA) (ρ:=ρ) (st:=st) hk₀
  have R₀:=R.keep C hk₀
  have hL:s.heap.get? s.heap.objs.size=none:=fresh_size
  have hCf:∀x a,(callEnvC (fnOf name qual params body scope dV kV doc pm an cdv ct) s.heap.objs.size fa).cells.lookup x=some a→s.heap.get? a=none∧a≠s.heap.objs.size:=by
   intro x a hx
   have:s.heap.objs.size<a:=hab x a (mem_of_lookup hx)
   exact⟨Heap.get?_none_of_le (Nat.le_of_lt this),Nat.ne_of_gt this⟩
  have hex:∀k,Has k st.H∨Has k st.F→∃ob,s.heap.get? (ρ k)=some ob:=by
   intro k hk
   rcases hk with⟨q,e⟩|⟨q,e⟩
   ·refine E12 ((R.obj k q e).ex) λob e' _=>?_;exact I11 ob e'
   ·refine E12 ((R.fro k q e).ex) λob e' _=>?_;exact I11 ob e'
  have hEC:EC scope cn (callEnvC (fnOf name qual params body scope dV kV doc pm an cdv ct) s.heap.objs.size fa):=by
   refine I05 rfl hk rfl rfl (λx hx=>?_)
   have:=hcl' (s.heap.objs.size+1) x hx
   exact Option.isSome_iff_exists.mp this
  have X₀:LocR c (callEnvC (fnOf name qual params body scope dV kV doc pm an cdv ct) s.heap.objs.size fa) nl (argsLoc 0 (args++[])) ρ st h₀:=by
   refine⟨nd,λi u hi=>?_,⟨_,hns⟩,λx a hx=>⟨_,hcel x a hx⟩,R.fresh hL,λx a hx=>R.fresh (hCf x a hx).1,λk hk z=>?_,λk hk x a hx z=>?_,λx a hx=>(hCf x a hx).2,λx y a hx hy=>?_⟩
   ·refine bc λhno=>?_;refine E02 (argsLoc_inv hi) λ_ hu=>?_
    rw[Nat.sub_zero,List.append_nil]at hu
    have rs:VRs st.n ρ h₀ args args':=ra.tr N₀.tr
    refine E12 (rs.get hu) λu' hu' ru=>?_
    have hlt:i<names.length:=by
     have h1:=(List.getElem?_eq_some_iff.mp hu').1
     lia
    have hx:names[i]? =some names[i]:=List.getElem?_eq_getElem hlt
    refine hno ?_;refine I23 names[i] u' (headB_iff hnl i _ hx) ?_ ru
    rcases kinds _ (List.getElem_mem hlt)with q|⟨q,q'⟩
    ·exact .inl ⟨q,_,hns,bindL_at ndn hx hu' q⟩
    ·refine E11 (hEC.2.2.2.2 _ q') λa ha=>?_
     refine .inr ⟨.inl q,a,ha,?_⟩
     have:=hcel _ a ha
     rw[bindC_at ndn hx hu' (by show scope.names.lookup _≠_;rw[q];simp)]at this
     exact this
   ·refine E11 (hex k hk) λob e'=>?_
    rw[show ρ k=s.heap.objs.size from z]at e';exact nn hL e'
   ·refine E11 (hex k hk) λob e'=>?_
    rw[z]at e';exact nn ((hCf x a hx).1) e'
   ·have:=apart_inj hap (mem_of_lookup hx) (mem_of_lookup hy) rfl
    exact congrArg Prod.fst this
  refine hno ?_;exact hb _ (callEnvC (fnOf name qual params body scope dV kV doc pm an cdv ct) s.heap.objs.size fa) h₀ tk₀ _ _ hEC hA.deeper R₀ X₀ λh' tk o=>hQ h' tk o
theorem law_call(C:c.Ok)(S:SRok c)(T:TX c.KS)(U:LamTab c lamP lamQ){a:Addr}{sc:List Int}(hx:c.xp=XC0 (a,sc)){A:Around}{ρ:Nat→Addr}{s:Shared}{RR:Result→Shared→Prop}(hA:AOk 13 A)(R:RelH c ρ ⟨[],[],1⟩ s.heap)
 (hQ:∀h' tk,OldK c.H0 h'→RR (.ok (.ret (.bool true))) {s with heap:=h',toks:=tk}):codeAny (model prog w) A (.call (.ref 453) ⟨[.ref a],[]⟩) RR s:=by
 refine bc λhno=>?_;obtain⟨name,qual,dV,kV,doc,pm,cdv,ct,oc,an,od,osl,h1,h2,h3⟩:=T.fn_law
 refine hno ?_;exact fnCore (nl:=nl_law) (cn:=["deck"]) (d:=12) C h1 h2 h3 (by kernel_rfl) (λk=>by kernel_rfl) (by kernel_rfl) (by decide) (by decide) (by decide) (by kernel_rfl) (by kernel_rfl) (by kernel_rfl) hA R (.cons (.adr a) .nil) rfl
  (λA' env h₀ tk₀ Q E he hA' R' L' hQ'=>law_body C S T U hx he hA' R' L' hQ') hQ
end
noncomputable def cutK(K:Frag):Frag:=K.filter λp=> !Nat.beq p.1 126
theorem cutK_lookup(a:Addr):∀K:Frag,(cutK K).lookup a=if a=126 then none else K.lookup a
 | []=>by rw[show cutK []=[]from rfl];split <;> rfl
 |(b,o)::K=>by
  have ih:=cutK_lookup a K
  unfold cutK at ih ⊢
  rw[List.filter_cons]
  by_cases hb:b=126
  ·rw[if_neg (by rw[hb];exact(by decide:¬((!Nat.beq 126 126)=true))),ih]
   by_cases ha:a=126
   ·rw[if_pos ha,if_pos ha]
   ·rw[if_neg ha,if_neg ha,List.lookup_cons,beq_false_of_ne (by rw[hb];exact ha)]
  ·rw[if_pos (by rw[beq_ne_false hb];rfl),List.lookup_cons,List.lookup_cons]
   by_cases ha:a=b
   ·rw[ha,beq_self_eq_true,if_neg hb]
   ·rw[beq_false_of_ne ha];exact ih
theorem cutK_in{K:Frag}{h:Heap}(X:K.In h):(cutK K).In h:=by
 intro a o e
 rw[cutK_lookup]at e
 split at e
 ·exact nos e
 ·exact X a o e
structure KFacts (K:Frag):Prop where
 t:TX (cutK K)
 p:K.lookup 126=some (tabObj #[])
 hd:∃(o:Obj) (vs:Array Value) (file:PySem.Str) (tf:Tok) (flags:Int) (tg:Tok) (inF:Bool) (text:Int) (tt:Tok),(cutK K).lookup 128=some o∧o.cls=.type "code"∧o.data=.fields vs∧vs[11]? =some (.ref 126)∧vs.getD 11 .none=.ref 126∧vs.getD 18 .none=.str file tf∧vs.getD 7 .none=.int flags tg∧vs.getD 9 .none=.bool inF∧vs.getD 10 .none=.int text tt
 sys:∃o,K.lookup sysModules=some o
 sr:∀(prog:Program) (w:World) (a:Nat) (o:AO),lk a SR0=some o→(∃ob,(cutK K).lookup a=some ob)∧∀n ρ h,(cutK K).In h→OAt prog w n ρ h a o
theorem srL{prog:Program}{w:World}{K:Frag}{a:Nat}{its:Array Value}{m:Nat}{xs:List V}(e:K.lookup a=some (listOf its m))(r:∀n ρ h,VRs n ρ h xs its.toList):(∃ob,K.lookup a=some ob)∧∀n ρ h,K.In h→OAt prog w n ρ h a (.list xs):=
 ⟨⟨_,e⟩,λn ρ h X=>⟨its,m,X _ _ e,r n ρ h⟩⟩
theorem pairs5{prog:Program}{w:World}{h:Heap}{a:Addr}{es:Array DictEntry}{ep:Nat}{kvs:List (Int×Value)}(e:h.get? a=some ⟨.type "dict",none,.dict es ep,#[]⟩)(hk:∀x∈es.toList,∃k,Value.isInt k x.key=true∧x.hash=hashInt k)(hp:Pairs (intKind prog w) es.toList kvs)(hn:(kvs.map (·.1)).Nodup):h.DictOf (intKind prog w) a kvs:=
 ⟨_,es,ep,e,⟨rfl,rfl,rfl⟩,rfl,λx hx=>hk x (Array.mem_toList_iff.mpr hx),hp,hn⟩
theorem law_fin{prog:Program}{w:World}{K:Frag}{p:Program}{loose:List PySem.Str}{mean:ExcName→Option Value}{mg mb:PySem.Str→Option Value}{s1:Shared}(F:KFacts K)(KX:K.In s1.heap)(T:Top p loose mean mg mb s1.heap){a:Addr}{xs:List Value}{od:Option Addr}{n:Nat}{sl:Array (Option Value)}{sc:List Int}
 (ho:s1.heap.get? a=some ⟨.type "list",od,.seq xs.toArray n,sl⟩) (hi:IntsAre xs sc) (hb:xs.length=sc.length∧sc.length≤2 ^ 20) {Q E:Value→Shared→Prop} (hQ:∀h' tk,OldK s1.heap h'→Q (.bool true) {s1 with heap:=h',toks:=tk}):wpAny (model prog w) callerA (call (.ref 453) [.ref a]) Q E s1:=by
 have e126:=KX _ _ F.p
 have off:∀ {b:Addr} {o:Obj} {es:Array DictEntry} {ep:Nat},s1.heap.get? b=some o→o.data=.dict es ep→b≠126:=λe e' z=>by
  subst z
  obtain rfl:=oin e126 e;cases e'
 let c:Cfg prog w:=⟨cutK K,s1.heap,(· =126),TabIs lamP lamQ,SR0,mg,mb,[],0,some (a,sc)⟩
 have hstat:∃o,s1.heap.get? cStatics=some o:=by
  refine E12 T.nodigits λmc x _=>?_
  refine E12 (Ns.mov x) λo e _=>?_
  exact I11 o e
 have C:c.Ok:=by
  refine⟨λb o e=>?_,⟨hstat,by show ¬(cStatics=126);decide⟩,λb hb=>?_,?_,⟨T.g,by show ¬(mainGlobals=126);decide⟩,⟨T.b,by show ¬(builtinsNs=126);decide⟩,T.builtins,λh h' x k=>x.keeps k,λq e h still=>?_⟩
  ·have h1:=cutK_in KX _ _ e
   refine⟨h1,λz=>?_⟩
   have e':(cutK K).lookup b=some o:=e
   rw[cutK_lookup]at e';exact nn (if_pos z) e'
  ·have:b=126:=hb
   clear F KX T ho hi hQ off hstat hb;subst this
   exact I11 _ e126
  ·refine E11 F.sys λo e=>?_;exact I11 o (KX _ _ e)
  ·obtain rfl:=sin e
   have na:a≠126:=λz=>by
    subst z
    rw[e126]at ho;cases ho
   refine I13 xs.toArray ⟨_,still _ _ ho na,rfl,n,rfl⟩ ?_ hi
   rw[List.size_toArray]
   have:(2:Nat) ^ 20=1048576:=by decide
   omega
 have S:SRok c:=λa o e=>F.sr prog w a o e
 have U:LamTab c lamP lamQ:=by
  refine bc λhno=>?_;obtain⟨o,vs,file,tf,flags,tg,inF,text,tt,h1,h2,h3,h4,h5,h6,h7,h8,h9⟩:=F.hd
  have hd:∀h,(cutK K).In h→CodeHd h 128 126:=λh X=>⟨o,vs,file,tf,flags,tg,inF,text,tt,X _ _ h1,h2,h3,h4,h5,h6,h7,h8,h9,by decide⟩
  refine hno ?_;refine⟨hd,⟨#[],(hd _ (cutK_in KX)).tab e126⟩,λ_=>Iff.rfl,rfl,?_⟩
  refine E26 T.bmain λbm ob b1 b2 b3 b4 b5 b6=>?_
  refine I28 bm ob b1 b2 (λz=>?_) (λz=>?_) b3 b4 b5 b6
  ·refine E33 T.g λo' es ep e d _=>?_
   rw[z]at b3;clear F KX T ho hi hb hQ e126 off hstat C S h1 h2 h3 h4 h5 h6 h7 h8 h9 hd b1 b2 b4 b5 z;obtain rfl:=oin e b3
   rw[b6]at d;cases d
  ·rw[z]at b3;clear F KX T ho hi hb hQ off hstat C S h1 h2 h3 h4 h5 h6 h7 h8 h9 hd b1 b2 b5 b6 z;obtain rfl:=oin e126 b3;cases b4
 have R:RelH c (λ_=>a) ⟨[],[],1⟩ s1.heap:=
  ⟨cutK_in KX,T.nolimit,.refl _,λ_ _ e _=>e,⟨#[],e126,trivial,.inl rfl⟩,λk o e=>(by cases e),λk o e=>(by cases e),λk k' _ ⟨o,e⟩=>(by cases e),λk ⟨o,e⟩=>(by cases e),λk ⟨o,e⟩=>(by cases e),λk hk=>(by rcases hk with⟨o,e⟩|⟨o,e⟩ <;> cases e),λk ⟨o,e⟩=>(by cases e),⟨[],rfl,λq hq=>(by cases hq)⟩,λk ⟨o,e⟩=>(by cases e),Nat.zero_le _⟩
 exact wpAny_call (law_call (c:=c) C S F.t U rfl (by refine⟨rfl,?_,?_⟩ <;> decide) R λh' tk ok=>hQ h' tk ok)
theorem sr_of{K:Frag}(h392:(cutK K).lookup 392=some ⟨.type "dict",none,.dict #[⟨192,.int 192 756,.ref 393⟩,⟨194,.int 194 759,.ref 394⟩,⟨7840,.int 7840 762,.ref 395⟩,⟨7846,.int 7846 765,.ref 396⟩,⟨64257,.int 64257 768,.ref 397⟩] 5,#[]⟩)
 (h393:(cutK K).lookup 393=some (listOf #[.int 65 757,.int 768 758] 0))
 (h394:(cutK K).lookup 394=some (listOf #[.int 65 760,.int 770 761] 0))
 (h395:(cutK K).lookup 395=some (listOf #[.int 65 763,.int 803 764] 0))
 (h396:(cutK K).lookup 396=some (listOf #[.int 194 766,.int 768 767] 0))
 (h397:(cutK K).lookup 397=some (listOf #[.int 102 769,.int 105 770] 0))
 (h405:(cutK K).lookup 405=some (listOf #[.int 65 783,.int 768 784,.int 803 785,.int 770 786,.int 192 787,.int 7846 788,.int 64257 789,.int 837 790,.int 66 791,.int 7840 792,.int 194 793] 0))
 (h406:(cutK K).lookup 406=some (listOf #[.int 65 795,.int 768 796,.int 803 797] 0))
 (h407:(cutK K).lookup 407=some (listOf #[.int 65 798,.int 770 799,.int 803 800,.int 768 801] 0))
 (h408:(cutK K).lookup 408=some (listOf #[.int 194 802,.int 768 803] 0))
 (h409:(cutK K).lookup 409=some (listOf #[.int 768 804,.int 64257 805,.int 803 806] 0))
 (h410:(cutK K).lookup 410=some (listOf #[.ref 406,.ref 407,.ref 408,.ref 409] 0))
 :∀(prog:Program) (w:World) (a:Nat) (o:AO),lk a SR0=some o→(∃ob,(cutK K).lookup a=some ob)∧∀n ρ h,(cutK K).In h→OAt prog w n ρ h a o:=by
 intro prog w a o e
 have hm:=lk_mem e
 clear e
 simp only[SR0,List.mem_cons,Prod.mk.injEq,List.not_mem_nil,or_false]at hm
 rcases hm with⟨rfl,rfl⟩|⟨rfl,rfl⟩|⟨rfl,rfl⟩|⟨rfl,rfl⟩|⟨rfl,rfl⟩|⟨rfl,rfl⟩|⟨rfl,rfl⟩|⟨rfl,rfl⟩|⟨rfl,rfl⟩|⟨rfl,rfl⟩|⟨rfl,rfl⟩|⟨rfl,rfl⟩
 ·refine⟨⟨_,h392⟩,λn ρ h X=>⟨rfl,[(192,Value.ref 393),(194,Value.ref 394),(7840,Value.ref 395),(7846,Value.ref 396),(64257,Value.ref 397)],pairs5 (X _ _ h392) (λx hx=>?_) (.cons rfl rfl (.cons rfl rfl (.cons rfl rfl (.cons rfl rfl (.cons rfl rfl .nil))))) (by decide),.cons (.adr _) (.cons (.adr _) (.cons (.adr _) (.cons (.adr _) (.cons (.adr _) .nil))))⟩⟩
  simp only[List.mem_cons,List.not_mem_nil,or_false]at hx
  rcases hx with rfl|rfl|rfl|rfl|rfl
  ·exact I12 192 rfl (by kernel_rfl)
  ·exact I12 194 rfl (by kernel_rfl)
  ·exact I12 7840 rfl (by kernel_rfl)
  ·exact I12 7846 rfl (by kernel_rfl)
  ·exact I12 64257 rfl (by kernel_rfl)
 ·exact srL h393 λn ρ h=>.cons (.int _ _) (.cons (.int _ _) .nil)
 ·exact srL h394 λn ρ h=>.cons (.int _ _) (.cons (.int _ _) .nil)
 ·exact srL h395 λn ρ h=>.cons (.int _ _) (.cons (.int _ _) .nil)
 ·exact srL h396 λn ρ h=>.cons (.int _ _) (.cons (.int _ _) .nil)
 ·exact srL h397 λn ρ h=>.cons (.int _ _) (.cons (.int _ _) .nil)
 ·exact srL h405 λn ρ h=>.cons (.int _ _) (.cons (.int _ _) (.cons (.int _ _) (.cons (.int _ _) (.cons (.int _ _) (.cons (.int _ _) (.cons (.int _ _) (.cons (.int _ _) (.cons (.int _ _) (.cons (.int _ _) (.cons (.int _ _) .nil))))))))))
 ·exact srL h406 λn ρ h=>.cons (.int _ _) (.cons (.int _ _) (.cons (.int _ _) .nil))
 ·exact srL h407 λn ρ h=>.cons (.int _ _) (.cons (.int _ _) (.cons (.int _ _) (.cons (.int _ _) .nil)))
 ·exact srL h408 λn ρ h=>.cons (.int _ _) (.cons (.int _ _) .nil)
 ·exact srL h409 λn ρ h=>.cons (.int _ _) (.cons (.int _ _) (.cons (.int _ _) .nil))
 ·exact srL h410 λn ρ h=>.cons (.adr _) (.cons (.adr _) (.cons (.adr _) (.cons (.adr _) .nil)))
end Mine
open PySem.W.X
set_option Elab.async true
namespace Mine.hd
theorem tw17311223219408574766:True:=trivial
theorem tw17087091549796120035:True:=trivial
theorem tw13047593935725612058:True:=trivial
theorem tw14892549342360969540:True:=trivial
theorem tw7519716089354478335:True:=trivial
theorem tw978945382295711627:True:=trivial
theorem tw4065347644161347641:True:=trivial
theorem tw6293948785866598258:True:=trivial
theorem tw5961118342813265553:True:=trivial
theorem tw11128854368766332075:True:=trivial
theorem tw8068729725432388964:True:=trivial
theorem tw10216474801634566288:True:=trivial
theorem tw5148922909946612681:True:=trivial
theorem tw5781342201191254626:True:=trivial
theorem tw17711083657039698284:True:=trivial
theorem tw5732804406350252772:True:=trivial
theorem tw1452849714261714991:True:=trivial
theorem tw14620637471214046174:True:=trivial
theorem tw12631932088317031055:True:=trivial
theorem tw14176624398918483544:True:=trivial
theorem tw15043168886218598503:True:=trivial
theorem tw2867327485932766208:True:=trivial
theorem tw6990203504111849199:True:=trivial
theorem tw10752148897807903841:True:=trivial
theorem tw11652457597714270106:True:=trivial
theorem tw16649331688326792143:True:=trivial
theorem tw13372043803930879067:True:=trivial
theorem tw4856431653887292112:True:=trivial
theorem tw307737655149646647:True:=trivial
theorem tw3953601041324332601:True:=trivial
theorem tw11117797201346649052:True:=trivial
theorem tw2216850387143573719:True:=trivial
theorem tw8684328023851190084:True:=trivial
theorem tw6456299953492986246:True:=trivial
theorem tw6838551448383532254:True:=trivial
theorem tw461538923250603899:True:=trivial
theorem tw18241275227582772068:True:=trivial
theorem tw8047900516022102942:True:=trivial
theorem tw8671608845466749128:True:=trivial
theorem tw14896477498954680388:True:=trivial
theorem tw8343274005884668182:True:=trivial
theorem tw15731897101577311753:True:=trivial
theorem tw12936449754285732098:True:=trivial
theorem tw13330244855972007585:True:=trivial
theorem tw17599816209265215132:True:=trivial
theorem tw2114630138375439770:True:=trivial
theorem tw7752767780024739350:True:=trivial
theorem tw17650839729002327288:True:=trivial
theorem tw12092154237167983948:True:=trivial
theorem tw6528754448969337418:True:=trivial
theorem tw5373601922739893978:True:=trivial
theorem tw3989032608394221619:True:=trivial
theorem tw8770205317985620760:True:=trivial
theorem tw7540655947842036084:True:=trivial
theorem tw14353793391729792155:True:=trivial
theorem tw4014540891139286612:True:=trivial
theorem tw7746578258024575070:True:=trivial
theorem tw12588582704262371052:True:=trivial
theorem tw5282504435634884242:True:=trivial
theorem tw11893437276241958245:True:=trivial
theorem tw11953376511379268794:True:=trivial
theorem tw1382963296337349011:True:=trivial
theorem tw3182187488490625086:True:=trivial
theorem tw18300207936620678264:True:=trivial
theorem tw15368132723985388332:True:=trivial
theorem tw13518370688599389936:True:=trivial
theorem tw3339509857192787122:True:=trivial
theorem tw5562173858411828344:True:=trivial
theorem tw13919464512627920130:True:=trivial
theorem tw5278057926702712004:True:=trivial
theorem tw13903934854276604550:True:=trivial
theorem tw3443669649825651883:True:=trivial
theorem tw3915529967508079626:True:=trivial
theorem tw6545403380812914513:True:=trivial
theorem tw4481051177388795877:True:=trivial
theorem tw3480954088277226078:True:=trivial
theorem tw13609717118414637909:True:=trivial
theorem tw12173100003817136821:True:=trivial
theorem tw7082855905992002993:True:=trivial
theorem tw14400467628812073631:True:=trivial
theorem tw4478964076566166474:True:=trivial
theorem tw4115565904173853331:True:=trivial
theorem tw10111801491309104144:True:=trivial
theorem tw6982297934935202809:True:=trivial
theorem tw7721951785955056133:True:=trivial
theorem tw14294001040229213422:True:=trivial
theorem tw10525666975642140466:True:=trivial
theorem tw7510230149288206974:True:=trivial
theorem tw12901994302517312135:True:=trivial
theorem tw6819123309680001836:True:=trivial
theorem tw5987830557187376847:True:=trivial
theorem tw17901334829092211166:True:=trivial
theorem tw13225837485096350037:True:=trivial
theorem tw7628703163842673926:True:=trivial
theorem tw16037735763661986305:True:=trivial
theorem tw3759623122121258479:True:=trivial
theorem tw1865391376527767206:True:=trivial
theorem tw8117029840178788049:True:=trivial
theorem tw9427301549700849589:True:=trivial
theorem tw9421340871869096474:True:=trivial
theorem tw7610815399733428385:True:=trivial
theorem tw1882180444382439491:True:=trivial
theorem tw701787995468756871:True:=trivial
theorem tw7914949630228597729:True:=trivial
theorem tw12050417470231563642:True:=trivial
theorem tw190519026028168232:True:=trivial
theorem tw9277588360372424766:True:=trivial
theorem tw17047115858639842297:True:=trivial
theorem tw17420951861521290806:True:=trivial
theorem tw5978321128707920903:True:=trivial
theorem tw6060742912462422084:True:=trivial
theorem tw9783614193127449063:True:=trivial
theorem tw5635641802508607975:True:=trivial
theorem tw13483081372092288885:True:=trivial
theorem tw8977307856219701671:True:=trivial
theorem tw4706079058837389440:True:=trivial
theorem tw8727321023445011275:True:=trivial
theorem tw2274498078352570744:True:=trivial
theorem tw4993660671451451078:True:=trivial
theorem tw3085183777334472315:True:=trivial
theorem tw1129884963351977449:True:=trivial
theorem tw5716766192118558609:True:=trivial
theorem tw6830512106363814048:True:=trivial
theorem tw13855946660403688772:True:=trivial
theorem tw10170382586518783626:True:=trivial
theorem tw15166520500009309586:True:=trivial
theorem tw17574625026820762457:True:=trivial
theorem tw16412773359747925120:True:=trivial
theorem tw16794629799341752650:True:=trivial
theorem tw17673860158736603733:True:=trivial
theorem tw10403243965636340961:True:=trivial
theorem tw4225703048834024713:True:=trivial
theorem tw9557236495431379559:True:=trivial
theorem tw4172343393113369950:True:=trivial
theorem tw16945582573551092051:True:=trivial
theorem tw3828038474966422129:True:=trivial
theorem tw9430268157657104642:True:=trivial
theorem tw8004679753235328684:True:=trivial
theorem tw16853341256802265648:True:=trivial
theorem tw13217225542625558698:True:=trivial
theorem tw9386895884608548742:True:=trivial
theorem tw11213053971927718326:True:=trivial
theorem tw15527848837575444561:True:=trivial
theorem tw13638418597567726942:True:=trivial
theorem tw3381375190539634487:True:=trivial
theorem tw17986969038992634876:True:=trivial
theorem tw13828106393651249627:True:=trivial
theorem tw17588044629489971554:True:=trivial
theorem tw10727248033764811480:True:=trivial
theorem tw4851647983119433812:True:=trivial
theorem tw16473244170626142550:True:=trivial
theorem tw226724450230711188:True:=trivial
theorem tw14960593345356199642:True:=trivial
theorem tw10743916045514856203:True:=trivial
theorem tw10784824025267889561:True:=trivial
theorem tw14705683404202351889:True:=trivial
theorem tw15508949281206285077:True:=trivial
theorem tw4272726840584523970:True:=trivial
theorem tw12487502673411948298:True:=trivial
theorem tw3109861748172591687:True:=trivial
theorem tw15595854959937240912:True:=trivial
theorem tw15083628210047938546:True:=trivial
theorem tw6196171512934965099:True:=trivial
theorem tw17950676927832955104:True:=trivial
theorem tw10458740792067480800:True:=trivial
theorem tw3219085151875037572:True:=trivial
theorem tw1506431575118746342:True:=trivial
theorem tw13866372431405929976:True:=trivial
theorem tw15833661619300960221:True:=trivial
theorem tw12112201142124510154:True:=trivial
theorem tw17213754286329925777:True:=trivial
theorem tw16091413853298234908:True:=trivial
theorem tw3530705653197291679:True:=trivial
theorem tw7515886511687920896:True:=trivial
theorem tw16904818350239718627:True:=trivial
theorem tw6820862383352777685:True:=trivial
theorem tw402640490398009360:True:=trivial
theorem tw8716120427605611371:True:=trivial
theorem tw15837987909243819085:True:=trivial
theorem tw8960069828448710407:True:=trivial
theorem tw7763873220885509757:True:=trivial
theorem tw6882427118574961969:True:=trivial
theorem tw15642763164714097627:True:=trivial
theorem tw2845679848157327705:True:=trivial
theorem tw6276725880618359904:True:=trivial
theorem tw991583007596301734:True:=trivial
theorem tw3789350110615891812:True:=trivial
theorem tw18293851220164018083:True:=trivial
theorem tw4478166936697009375:True:=trivial
theorem tw15643275761693703936:True:=trivial
theorem tw13431754692932380062:True:=trivial
theorem tw5174551420813472067:True:=trivial
theorem tw9170477692918782315:True:=trivial
theorem tw18103342009636024947:True:=trivial
theorem tw15967140613478806237:True:=trivial
theorem tw12970310613348327589:True:=trivial
theorem tw432457690288141553:True:=trivial
theorem tw5238900199007264825:True:=trivial
theorem tw189712035060473897:True:=trivial
theorem tw11210553801493137410:True:=trivial
theorem tw17387473266821786944:True:=trivial
theorem tw6123773746684550334:True:=trivial
theorem tw13285133528070534704:True:=trivial
theorem tw1413172679324656950:True:=trivial
theorem tw9719896912496429819:True:=trivial
theorem tw5902613922787404954:True:=trivial
theorem tw8428860471423672150:True:=trivial
theorem tw1580110805410547442:True:=trivial
theorem tw8879563391730754479:True:=trivial
theorem tw10030107230732127627:True:=trivial
theorem tw14955159897011116063:True:=trivial
theorem tw10246146449241189800:True:=trivial
theorem tw5130813555471234732:True:=trivial
theorem tw7512474625130614241:True:=trivial
theorem tw17157681369570327122:True:=trivial
theorem tw16259696140248634718:True:=trivial
theorem tw15089522573102190283:True:=trivial
theorem tw9748044761591592747:True:=trivial
theorem tw16154546982801380032:True:=trivial
theorem tw11513968764499736323:True:=trivial
theorem tw212345690472687942:True:=trivial
theorem tw1359830224848277088:True:=trivial
theorem tw11054480109507316185:True:=trivial
theorem tw11631947586910100387:True:=trivial
theorem tw2327210489368252092:True:=trivial
theorem tw2386827423013361158:True:=trivial
theorem tw14560493823538711346:True:=trivial
theorem tw5629675986466331604:True:=trivial
theorem tw13790719812936386609:True:=trivial
theorem tw6164396464334811476:True:=trivial
theorem tw18245042118932799458:True:=trivial
theorem tw2315301623876862497:True:=trivial
theorem tw2101469004524951375:True:=trivial
theorem tw9702936160620672325:True:=trivial
theorem tw15615537253650120727:True:=trivial
theorem tw8025032847418708242:True:=trivial
theorem tw15422856539912107476:True:=trivial
theorem tw464777395874653626:True:=trivial
theorem tw1013155817946168525:True:=trivial
theorem tw1836080755315867724:True:=trivial
theorem tw17330945745186091897:True:=trivial
theorem tw16970440968685349367:True:=trivial
theorem tw1409312971732116557:True:=trivial
theorem tw4870687313549177768:True:=trivial
theorem tw1011335219593555734:True:=trivial
theorem tw162610821266807592:True:=trivial
theorem tw8609351116199087170:True:=trivial
theorem tw12399718760709695909:True:=trivial
theorem tw1222794163293265305:True:=trivial
theorem tw13409441903868389331:True:=trivial
theorem tw5054737718236178183:True:=trivial
theorem tw9763420282994701918:True:=trivial
theorem tw4360684699965382250:True:=trivial
theorem tw17672654358674132775:True:=trivial
theorem tw8735263284916673568:True:=trivial
theorem tw17893044597097874663:True:=trivial
theorem tw13267510147771200024:True:=trivial
theorem tw11032806212648032379:True:=trivial
theorem tw14906377314874228009:True:=trivial
theorem tw6931407450589930559:True:=trivial
theorem tw15910714762333108613:True:=trivial
theorem tw6993616743467081660:True:=trivial
theorem tw16640546478005224243:True:=trivial
theorem tw18343703819029505601:True:=trivial
theorem tw17681399029576232318:True:=trivial
theorem tw2930668341846507884:True:=trivial
theorem tw13277076834127875243:True:=trivial
theorem tw13783031573616600631:True:=trivial
theorem tw15220180469806662145:True:=trivial
theorem tw7023726343779634624:True:=trivial
theorem tw13315533130655954831:True:=trivial
theorem tw3309697970292668127:True:=trivial
theorem tw7270182246851987180:True:=trivial
theorem tw12614811148066621264:True:=trivial
theorem tw13289513938125300765:True:=trivial
theorem tw14553816603554493358:True:=trivial
theorem tw10949625832625181284:True:=trivial
theorem tw11709330566771433103:True:=trivial
theorem tw16722109127936396110:True:=trivial
theorem tw5657824000916062451:True:=trivial
theorem tw11402939732021071671:True:=trivial
theorem tw6555240042291301478:True:=trivial
theorem tw6411954120941647267:True:=trivial
theorem tw16713699803418581334:True:=trivial
theorem tw8516288146210602744:True:=trivial
theorem tw922143313871775805:True:=trivial
theorem tw2391449824757734642:True:=trivial
theorem tw17258206423299326598:True:=trivial
theorem tw15416985209724490359:True:=trivial
theorem tw3442329435671937591:True:=trivial
theorem tw12070051907170230399:True:=trivial
theorem tw9499510787657705874:True:=trivial
theorem tw11232374478483605306:True:=trivial
theorem tw17562767543260142214:True:=trivial
theorem tw16332618649321777385:True:=trivial
theorem tw9345676750909349944:True:=trivial
theorem tw2442259710966052079:True:=trivial
theorem tw2603259988358896889:True:=trivial
theorem tw2999033326186475339:True:=trivial
theorem tw17714235663813219645:True:=trivial
theorem tw5366084841770067474:True:=trivial
theorem tw8789358453043137523:True:=trivial
theorem tw10614716105012338702:True:=trivial
theorem tw9960721518486171458:True:=trivial
theorem tw8990313861142287110:True:=trivial
theorem tw5036846961687405229:True:=trivial
theorem tw8134915037123179040:True:=trivial
theorem tw17903497710992402801:True:=trivial
theorem tw9345929723534960622:True:=trivial
theorem tw3919010098100093602:True:=trivial
theorem tw1997569388931296116:True:=trivial
theorem tw17948085552500728524:True:=trivial
theorem tw17054507655720011243:True:=trivial
theorem tw5416991563250132298:True:=trivial
theorem tw11389486352061984695:True:=trivial
theorem tw1760603350576429475:True:=trivial
theorem tw3008623586974134963:True:=trivial
theorem tw519851828213033955:True:=trivial
theorem tw16868993833207775613:True:=trivial
theorem tw13321331477185743149:True:=trivial
theorem tw13893168526513508166:True:=trivial
theorem tw1848646778235469078:True:=trivial
theorem tw6759412095888398321:True:=trivial
theorem tw4402725079659364252:True:=trivial
theorem tw1600037746751723098:True:=trivial
theorem tw8226494294326810461:True:=trivial
theorem tw11251137523995926341:True:=trivial
theorem tw13770079208771991547:True:=trivial
theorem tw17739348878880393726:True:=trivial
theorem tw11319892378374348655:True:=trivial
theorem tw3452082135128663414:True:=trivial
theorem tw728884934406724761:True:=trivial
theorem tw17606422857730326317:True:=trivial
theorem tw13368278939475635651:True:=trivial
theorem tw4740767245239349402:True:=trivial
theorem tw3451239065008710300:True:=trivial
theorem tw15344866539931968096:True:=trivial
theorem tw11319097763535126812:True:=trivial
theorem tw15759970867653108152:True:=trivial
theorem tw6407587892757256292:True:=trivial
theorem tw15411387601460861337:True:=trivial
theorem tw7494724483528729301:True:=trivial
theorem tw8457440626546761165:True:=trivial
theorem tw6082411064634330575:True:=trivial
theorem tw4236039668172988028:True:=trivial
theorem tw16157073509204512506:True:=trivial
theorem tw15529170255622000948:True:=trivial
theorem tw13181700845877081190:True:=trivial
theorem tw16345102440705955213:True:=trivial
theorem tw12647368939536790636:True:=trivial
theorem tw16240987189780228909:True:=trivial
theorem tw7754304195085646258:True:=trivial
theorem tw1197925565968671727:True:=trivial
theorem tw15673258824015622330:True:=trivial
theorem tw11754176132448286083:True:=trivial
theorem tw3493717111155160527:True:=trivial
theorem tw22551697357593593:True:=trivial
theorem tw6291416237084387574:True:=trivial
theorem tw6868836192036940282:True:=trivial
theorem tw7355570028127101125:True:=trivial
theorem tw8324504678176258764:True:=trivial
theorem tw3694398316872202419:True:=trivial
theorem tw6767318904944593275:True:=trivial
theorem tw10601615944963115059:True:=trivial
theorem tw7296583596125217682:True:=trivial
theorem tw14478148883734587675:True:=trivial
theorem tw12271959270614036898:True:=trivial
theorem tw541196102884509978:True:=trivial
theorem tw15852365999677673905:True:=trivial
theorem tw18264374347568628810:True:=trivial
theorem tw4971549296188076032:True:=trivial
theorem tw17177331786930743035:True:=trivial
theorem tw758273949599710562:True:=trivial
theorem tw7289634563603522867:True:=trivial
theorem tw553702245421142481:True:=trivial
theorem tw17542962492245011380:True:=trivial
theorem tw17252143746492648416:True:=trivial
theorem tw8886674118605766096:True:=trivial
theorem tw14457593812595234344:True:=trivial
theorem tw5343241284826551009:True:=trivial
theorem tw2323474266016966308:True:=trivial
theorem tw6264232113106981867:True:=trivial
theorem tw4702841417184801058:True:=trivial
theorem tw15367242080415987702:True:=trivial
theorem tw11136197038861592535:True:=trivial
theorem tw18293732401869909652:True:=trivial
theorem tw11660266114150955751:True:=trivial
theorem tw6442067068224118133:True:=trivial
theorem tw16477043939570097188:True:=trivial
theorem tw16171809288044610508:True:=trivial
theorem tw15615420239508185596:True:=trivial
theorem tw3229955645248102723:True:=trivial
theorem tw10603584201595350602:True:=trivial
theorem tw15948780112781908787:True:=trivial
theorem tw2887051446865420828:True:=trivial
theorem tw9657781627882305391:True:=trivial
theorem tw8990031805342692484:True:=trivial
theorem tw2068664650715991707:True:=trivial
theorem tw2329189449893159454:True:=trivial
theorem tw10472018719410664625:True:=trivial
theorem tw5190246844813560578:True:=trivial
theorem tw14103535550066685397:True:=trivial
theorem tw8356816923877370021:True:=trivial
theorem tw26425463804135960:True:=trivial
theorem tw3350844169311001129:True:=trivial
theorem tw15683763237869141255:True:=trivial
theorem tw16432713993328977331:True:=trivial
theorem tw4297731678662094536:True:=trivial
theorem tw12629568148972539762:True:=trivial
theorem tw7028611270464810887:True:=trivial
theorem tw16011055738799735888:True:=trivial
theorem tw12113243949977362033:True:=trivial
theorem tw11682748685660544111:True:=trivial
theorem tw10326790832001650384:True:=trivial
theorem tw17062030032774818151:True:=trivial
theorem tw6305734824756694309:True:=trivial
theorem tw2252305205657439004:True:=trivial
theorem tw2708950531961675432:True:=trivial
theorem tw10424393626065333798:True:=trivial
theorem tw1439246655266547700:True:=trivial
theorem tw6438293893037913957:True:=trivial
theorem tw3429492842335990350:True:=trivial
theorem tw12023040214023829324:True:=trivial
end Mine.hd
set_option maxRecDepth 100000 in
set_option maxHeartbeats 0 in
theorem Mine.hd:PySem.Challenge.rw_on0375_01.Holds:=by
 w_on;o_law;x_head;(case hw=>w_witness2)
 k_fill
 intro w s₀ s₁ mg mb G Y fa o pm cd doc dV kV ho hd hcd hD hmg hg args vals as hpre hlay hrd hwl hlo
 have KX:=kIn_of Y
 refine Ground.open G ?_
 intro T B D TE TW
 wrow_args hpre hlay hrd hwl hlo
 all_goals (
  x_fa T KX hmg
  (try all_lens))
 x_lists
 all_goals (
  refine Mine.law_fin ?KFacts KX T (by assumption) (by assumption) (by assumption) ?QFin
  case QFin=>
   intro h' tk ok
   refine⟨.inl ⟨_,_,[],rfl,λ_=>rfl,ReadsW.bool true,?_,λ_=>⟨List.nodup_nil,λ_ hm=>(nomatch hm)⟩⟩,ok,rfl,?_⟩
   ·first|rfl|wrow_post
   ·first|exact AllBare.empty|exact .of_eq rfl|exact allBare_of _ rfl|exact .of_eq (by assumption)|assumption
  case KFacts=>exact {
   t:={
    b_bool:=by kernel_rfl
    g_starts_at:=by kernel_rfl
    kp68:=by kernel_rfl
    b_len:=by kernel_rfl
    g_common_prefix:=by kernel_rfl
    kp61:=by kernel_rfl
    g_law_prefix:=by kernel_rfl
    kp448:=by kernel_rfl
    g_law_draw:=by kernel_rfl
    kp384:=by kernel_rfl
    b_range:=by kernel_rfl
    g_law_pick:=by kernel_rfl
    kp391:=by kernel_rfl
    b_list:=by kernel_rfl
    cm258_finish:=by kernel_rfl
    kp255:=by kernel_rfl
    cm258_put_all:=by kernel_rfl
    kp248:=by kernel_rfl
    g_FormStream:=by kernel_rfl
    mk258:=by kernel_rfl
    in258:=by kernel_rfl
    ty234:=by kernel_rfl
    kp258:=by kernel_rfl
    g_law_form:=by kernel_rfl
    kp443:=by kernel_rfl
    b_sorted:=by kernel_rfl
    g_law_known:=by kernel_rfl
    g_law_menu:=by kernel_rfl
    g_law_data:=by kernel_rfl
    kp417:=by kernel_rfl
    g_law_deck:=by kernel_rfl
    kp377:=by kernel_rfl
    cs258_held:=by kernel_rfl
    g_stream_composer:=by kernel_rfl
    kp211:=by kernel_rfl
    cs258_composer:=by kernel_rfl
    cs258_word:=by kernel_rfl
    cs258_data:=by kernel_rfl
    g_Composer:=by kernel_rfl
    mk182:=by kernel_rfl
    in182:=by kernel_rfl
    ty165:=by kernel_rfl
    kp182:=by kernel_rfl
    g_DECOMPOSED:=⟨203,by kernel_rfl,λn ρ h X=>.tup ⟨_,X 203 _ rfl,rfl,_,rfl⟩ (.cons (.str _ _ (by kernel_rfl)) (.cons (.str _ _ (by kernel_rfl)) .nil))⟩
    cg182_pairs:=by kernel_rfl
    cg182_seconds:=by kernel_rfl
    cs182_seconds:=by kernel_rfl
    g_primary_composites:=by kernel_rfl
    kp144:=by kernel_rfl
    cs182_pairs:=by kernel_rfl
    cm368_map_of:=by kernel_rfl
    kp365:=by kernel_rfl
    cm312_ranges:=by kernel_rfl
    kp302:=by kernel_rfl
    g_form_is_primary:=by kernel_rfl
    kp151:=by kernel_rfl
    cg368_maps:=by kernel_rfl
    g_RangeMap:=by kernel_rfl
    cg368_defaults:=by kernel_rfl
    mk312:=by kernel_rfl
    in312:=by kernel_rfl
    ty283:=by kernel_rfl
    kp312:=by kernel_rfl
    cs312_values:=by kernel_rfl
    cs312_starts:=by kernel_rfl
    cs312_default:=by kernel_rfl
    fn_RangeMap_init:=⟨"__init__","RangeMap.__init__",.none,.none,.none,.str ("unicore.ranges") 571,.ref 282,.none,.type "function",none,none,#[],by kernel_rfl,by kernel_rfl,λs vals X hl=>match vals,hl with| [a,b],_=>kp_binds X λ_=>by kernel_rfl⟩
    fn_Data_map_of:=⟨"map_of","Data.map_of",.none,.none,.none,.str ("unicore.data") 661,.ref 364,.none,.type "function",none,none,#[],by kernel_rfl,by kernel_rfl,λs vals X hl=>match vals,hl with| [a,b],_=>kp_binds X λ_=>by kernel_rfl⟩
    g_range_rows:=by kernel_rfl
    kp323:=by kernel_rfl
    g_range_are_like:=by kernel_rfl
    cg312_default:=by kernel_rfl
    kp269:=by kernel_rfl
    b_isinstance:=by kernel_rfl
    fn_range_are_like:=⟨"range_are_like","range_are_like",.none,.none,.none,.str ("unicore.ranges") 571,.ref 268,.none,.type "function",none,none,#[],by kernel_rfl,by kernel_rfl,λs vals X hl=>match vals,hl with| [a,b],_=>kp_binds X λ_=>by kernel_rfl⟩
    b_enumerate:=by kernel_rfl
    cg312_values:=by kernel_rfl
    g_MAX_CODE:=⟨196,by kernel_rfl⟩
    cg312_starts:=by kernel_rfl
    fn_range_rows:=⟨"range_rows","range_rows",.none,.none,.none,.str ("unicore.ranges") 571,.ref 322,.none,.type "function",none,none,#[],by kernel_rfl,by kernel_rfl,λs vals X hl=>match vals,hl with| [a],_=>kp_binds X λ_=>by kernel_rfl⟩
    fn_RangeMap_ranges:=⟨"ranges","RangeMap.ranges",.none,.none,.none,.str ("unicore.ranges") 571,.ref 301,.none,.type "function",none,none,#[],by kernel_rfl,by kernel_rfl,λvals hl=>match vals,hl with| [a],_=>by kernel_rfl⟩
    cm368_get:=by kernel_rfl
    kp358:=by kernel_rfl
    g_hangul_parts:=by kernel_rfl
    kp96:=by kernel_rfl
    cm312_get:=by kernel_rfl
    kp290:=by kernel_rfl
    g_place_by_half:=by kernel_rfl
    kp75:=by kernel_rfl
    fn_place_by_half:=⟨"place_by_half","place_by_half",.none,.none,.none,.str ("unicore.base") 194,.ref 74,.none,.type "function",none,none,#[],by kernel_rfl,by kernel_rfl,λs vals X hl=>match vals,hl with| [a,b],_=>kp_binds X λ_=>by kernel_rfl⟩
    fn_RangeMap_get:=⟨"get","RangeMap.get",.none,.none,.none,.str ("unicore.ranges") 571,.ref 289,.none,.type "function",none,none,#[],by kernel_rfl,by kernel_rfl,λs vals X hl=>match vals,hl with| [a,b],_=>kp_binds X λ_=>by kernel_rfl⟩
    fn_Data_get:=⟨"get","Data.get",.none,.none,.none,.str ("unicore.data") 661,.ref 357,.none,.type "function",none,none,#[],by kernel_rfl,by kernel_rfl,λs vals X hl=>match vals,hl with| [a,b,c],_=>kp_binds X λ_=>by kernel_rfl⟩
    g_TAIL_NONE:=⟨281,by kernel_rfl⟩
    g_VOWEL_FIRST:=⟨279,by kernel_rfl⟩
    g_LEAD_FIRST:=⟨277,by kernel_rfl⟩
    g_hangul_numbers:=by kernel_rfl
    kp89:=by kernel_rfl
    g_is_hangul_syllable:=by kernel_rfl
    kp82:=by kernel_rfl
    g_TAILS:=⟨287,by kernel_rfl⟩
    g_VOWELS:=⟨285,by kernel_rfl⟩
    g_SYLLABLE_FIRST:=⟨275,by kernel_rfl⟩
    fn_hangul_numbers:=⟨"hangul_numbers","hangul_numbers",.none,.none,.none,.str ("unicore.hangul") 273,.ref 88,.none,.type "function",none,none,#[],by kernel_rfl,by kernel_rfl,λs vals X hl=>match vals,hl with| [a],_=>kp_binds X λ_=>by kernel_rfl⟩
    g_SYLLABLES:=⟨290,by kernel_rfl⟩
    fn_is_hangul_syllable:=⟨"is_hangul_syllable","is_hangul_syllable",.none,.none,.none,.str ("unicore.hangul") 273,.ref 81,.none,.type "function",none,none,#[],by kernel_rfl,by kernel_rfl,λs vals X hl=>match vals,hl with| [a],_=>kp_binds X λ_=>by kernel_rfl⟩
    fn_hangul_parts:=⟨"hangul_parts","hangul_parts",.none,.none,.none,.str ("unicore.hangul") 273,.ref 95,.none,.type "function",none,none,#[],by kernel_rfl,by kernel_rfl,λs vals X hl=>match vals,hl with| [a],_=>kp_binds X λ_=>by kernel_rfl⟩
    fn_form_is_primary:=⟨"form_is_primary","form_is_primary",.none,.none,.none,.str ("unicore.forms") 327,.ref 150,.none,.type "function",none,none,#[],by kernel_rfl,by kernel_rfl,λs vals X hl=>match vals,hl with| [a,b,c],_=>kp_binds X λ_=>by kernel_rfl⟩
    fn_primary_composites:=⟨"primary_composites","primary_composites",.none,.none,.none,.str ("unicore.forms") 327,.ref 143,.none,.type "function",none,none,#[],by kernel_rfl,by kernel_rfl,λs vals X hl=>match vals,hl with| [a],_=>kp_binds X λ_=>by kernel_rfl⟩
    fn_Composer_init:=⟨"__init__","Composer.__init__",.none,.none,.none,.str ("unicore.forms") 327,.ref 164,.none,.type "function",none,none,#[],by kernel_rfl,by kernel_rfl,λs vals X hl=>match vals,hl with| [a,b],_=>kp_binds X λ_=>by kernel_rfl⟩
    fn_stream_composer:=⟨"stream_composer","stream_composer",.none,.none,.none,.str ("unicore.streams") 482,.ref 210,.none,.type "function",none,none,#[],by kernel_rfl,by kernel_rfl,λs vals X hl=>match vals,hl with| [a,b,c],_=>kp_binds X λ_=>by kernel_rfl⟩
    fn_FormStream_init:=⟨"__init__","FormStream.__init__",.ref 227,.none,.none,.str ("unicore.streams") 482,.ref 233,.none,.type "function",none,none,#[],by kernel_rfl,by kernel_rfl,λs vals X hl=>match vals,hl with| [a,b,c],_=>kp_binds X λ_=>by kernel_rfl⟩
    g_form_of:=by kernel_rfl
    cg258_composer:=by kernel_rfl
    cg258_word:=by kernel_rfl
    cg258_data:=by kernel_rfl
    cg258_held:=by kernel_rfl
    kp202:=by kernel_rfl
    g_composed:=by kernel_rfl
    kp194:=by kernel_rfl
    g_decomposed:=by kernel_rfl
    kp137:=by kernel_rfl
    b_max:=by kernel_rfl
    cm182_pair:=by kernel_rfl
    kp172:=by kernel_rfl
    g_hangul_pair:=by kernel_rfl
    kp103:=by kernel_rfl
    g_LEADS:=⟨283,by kernel_rfl⟩
    fn_hangul_pair:=⟨"hangul_pair","hangul_pair",.none,.none,.none,.str ("unicore.hangul") 273,.ref 102,.none,.type "function",none,none,#[],by kernel_rfl,by kernel_rfl,λs vals X hl=>match vals,hl with| [a,b],_=>kp_binds X λ_=>by kernel_rfl⟩
    fn_Composer_pair:=⟨"pair","Composer.pair",.none,.none,.none,.str ("unicore.forms") 327,.ref 171,.none,.type "function",none,none,#[],by kernel_rfl,by kernel_rfl,λs vals X hl=>match vals,hl with| [a,b,c],_=>kp_binds X λ_=>by kernel_rfl⟩
    fn_composed:=⟨"composed","composed",.ref 187,.none,.none,.str ("unicore.forms") 327,.ref 193,.none,.type "function",none,none,#[],by kernel_rfl,by kernel_rfl,λs vals X hl=>match vals,hl with| [a,b,c],_=>kp_binds X λ_=>by kernel_rfl⟩
    g_ordered:=by kernel_rfl
    kp124:=by kernel_rfl
    g_form_expanded:=by kernel_rfl
    kp117:=by kernel_rfl
    g_form_mapping:=by kernel_rfl
    kp110:=by kernel_rfl
    fn_form_mapping:=⟨"form_mapping","form_mapping",.none,.none,.none,.str ("unicore.forms") 327,.ref 109,.none,.type "function",none,none,#[],by kernel_rfl,by kernel_rfl,λs vals X hl=>match vals,hl with| [a,b,c],_=>kp_binds X λ_=>by kernel_rfl⟩
    fn_form_expanded:=⟨"form_expanded","form_expanded",.none,.none,.none,.str ("unicore.forms") 327,.ref 116,.none,.type "function",none,none,#[],by kernel_rfl,by kernel_rfl,λs vals X hl=>match vals,hl with| [a,b,c],_=>kp_binds X λ_=>by kernel_rfl⟩
    g_form_sorted:=by kernel_rfl
    kp129:=by kernel_rfl
    fn_form_sorted:=⟨"form_sorted",.none,.none,.none,.str ("unicore.forms") 327,.none,.type "function",none,none,#[],by kernel_rfl,by kernel_rfl,λs vals X hl=>match vals,hl with| [a],_=>kp_binds X λ_=>by kernel_rfl⟩
    fn_ordered:=⟨"ordered","ordered",.none,.none,.none,.str ("unicore.forms") 327,.ref 123,.none,.type "function",none,none,#[],by kernel_rfl,by kernel_rfl,λs vals X hl=>match vals,hl with| [a,b],_=>kp_binds X λ_=>by kernel_rfl⟩
    fn_decomposed:=⟨"decomposed","decomposed",.ref 130,.none,.none,.str ("unicore.forms") 327,.ref 136,.none,.type "function",none,none,#[],by kernel_rfl,by kernel_rfl,λs vals X hl=>match vals,hl with| [a,b,c],_=>kp_binds X λ_=>by kernel_rfl⟩
    fn_form_of:=⟨"form_of","form_of",.ref 195,.none,.none,.str ("unicore.forms") 327,.ref 201,.none,.type "function",none,none,#[],by kernel_rfl,by kernel_rfl,λs vals X hl=>match vals,hl with| [a,b,c,d],_=>kp_binds X λ_=>by kernel_rfl⟩
    fn_FormStream_finish:=⟨"finish","FormStream.finish",.none,.none,.none,.str ("unicore.streams") 482,.ref 254,.none,.type "function",none,none,#[],by kernel_rfl,by kernel_rfl,λs vals X hl=>match vals,hl with| [a],_=>kp_binds X λ_=>by kernel_rfl⟩
    cm258_put:=by kernel_rfl
    kp241:=by kernel_rfl
    g_is_stable_ahead:=by kernel_rfl
    kp219:=by kernel_rfl
    cm182_is_second:=by kernel_rfl
    kp179:=by kernel_rfl
    g_COMPATIBLE:=⟨204,by kernel_rfl,λn ρ h X=>.tup ⟨_,X 204 _ rfl,rfl,_,rfl⟩ (.cons (.str _ _ (by kernel_rfl)) (.cons (.str _ _ (by kernel_rfl)) .nil))⟩
    fn_Composer_is_second:=⟨"is_second","Composer.is_second",.none,.none,.none,.str ("unicore.forms") 327,.ref 178,.none,.type "function",none,none,#[],by kernel_rfl,by kernel_rfl,λs vals X hl=>match vals,hl with| [a,b],_=>kp_binds X λ_=>by kernel_rfl⟩
    fn_is_stable_ahead:=⟨"is_stable_ahead","is_stable_ahead",.ref 212,.none,.none,.str ("unicore.streams") 482,.ref 218,.none,.type "function",none,none,#[],by kernel_rfl,by kernel_rfl,λs vals X hl=>match vals,hl with| [a,b,c,d],_=>kp_binds X λ_=>by kernel_rfl⟩
    fn_FormStream_put:=⟨"put","FormStream.put",.none,.none,.none,.str ("unicore.streams") 482,.ref 240,.none,.type "function",none,none,#[],by kernel_rfl,by kernel_rfl,λs vals X hl=>match vals,hl with| [a,b],_=>kp_binds X λ_=>by kernel_rfl⟩
    fn_FormStream_put_all:=⟨"put_all","FormStream.put_all",.none,.none,.none,.str ("unicore.streams") 482,.ref 247,.none,.type "function",none,none,#[],by kernel_rfl,by kernel_rfl,λs vals X hl=>match vals,hl with| [a,b],_=>kp_binds X λ_=>by kernel_rfl⟩
    g_law_class:=by kernel_rfl
    kp404:=by kernel_rfl
    cm368_put:=by kernel_rfl
    kp351:=by kernel_rfl
    g_law_parts:=by kernel_rfl
    b_tuple:=by kernel_rfl
    g_Data:=by kernel_rfl
    mk368:=by kernel_rfl
    in368:=by kernel_rfl
    ty344:=by kernel_rfl
    kp368:=by kernel_rfl
    cs368_words:=by kernel_rfl
    cs368_properties:=by kernel_rfl
    cs368_maps:=by kernel_rfl
    g_data_defaults:=by kernel_rfl
    kp330:=by kernel_rfl
    cs368_defaults:=by kernel_rfl
    fn_data_defaults:=⟨"data_defaults","data_defaults",.none,.none,.none,.str ("unicore.data") 661,.ref 329,.none,.type "function",none,none,#[],by kernel_rfl,by kernel_rfl,λs vals X hl=>match vals,hl with| [],_=>kp_binds X λ_=>by kernel_rfl⟩
    fn_Data_init:=⟨"__init__","Data.__init__",.none,.none,.none,.str ("unicore.data") 661,.ref 343,.none,.type "function",none,none,#[],by kernel_rfl,by kernel_rfl,λs vals X hl=>match vals,hl with| [a],_=>kp_binds X λ_=>by kernel_rfl⟩
    cm312_put:=by kernel_rfl
    kp297:=by kernel_rfl
    fn_RangeMap_put:=⟨"put","RangeMap.put",.none,.none,.none,.str ("unicore.ranges") 571,.ref 296,.none,.type "function",none,none,#[],by kernel_rfl,by kernel_rfl,λs vals X hl=>match vals,hl with| [a,b,c,d],_=>kp_binds X λ_=>by kernel_rfl⟩
    fn_Data_put:=⟨"put","Data.put",.none,.none,.none,.str ("unicore.data") 661,.ref 350,.none,.type "function",none,none,#[],by kernel_rfl,by kernel_rfl,λs vals X hl=>match vals,hl with| [a,b,c,d,e],_=>kp_binds X λ_=>by kernel_rfl⟩
    fn_law_class:=⟨"_law_class","_law_class",.none,.none,.none,.str ("law_on0375_01") 730,.ref 403,.none,.type "function",none,none,#[],by kernel_rfl,by kernel_rfl,λs vals X hl=>match vals,hl with| [],_=>kp_binds X λ_=>by kernel_rfl⟩
    fn_law_data:=⟨"_law_data","_law_data",.none,.none,.none,.str ("law_on0375_01") 730,.ref 416,.none,.type "function",none,none,#[],by kernel_rfl,by kernel_rfl,λs vals X hl=>match vals,hl with| [],_=>kp_binds X λ_=>by kernel_rfl⟩
    b_int:=by kernel_rfl
    fn_law_deck:=⟨"_law_deck","_law_deck",.none,.none,.none,.str ("law_on0375_01") 730,.ref 376,.none,.type "function",none,none,#[],by kernel_rfl,by kernel_rfl,λs vals X hl=>match vals,hl with| [a],_=>kp_binds X λ_=>by kernel_rfl⟩
    fn_law_draw:=⟨"_law_draw","_law_draw",.none,.none,.none,.str ("law_on0375_01") 730,.ref 383,.none,.type "function",none,none,#[],by kernel_rfl,by kernel_rfl,λs vals X hl=>match vals,hl with| [a,b],_=>kp_binds X λ_=>by kernel_rfl⟩
    g_law_together:=by kernel_rfl
    g_law_ordered:=by kernel_rfl
    kp431:=by kernel_rfl
    kp436:=by kernel_rfl
    g_law_apart:=by kernel_rfl
    kp424:=by kernel_rfl
    fn_law_apart:=⟨"_law_apart","_law_apart",.none,.none,.none,.str ("law_on0375_01") 730,.ref 423,.none,.type "function",none,none,#[],by kernel_rfl,by kernel_rfl,λs vals X hl=>match vals,hl with| [a,b],_=>kp_binds X λ_=>by kernel_rfl⟩
    fn_law_ordered:=⟨"_law_ordered","_law_ordered",.none,.none,.none,.str ("law_on0375_01") 730,.ref 430,.none,.type "function",none,none,#[],by kernel_rfl,by kernel_rfl,λs vals X hl=>match vals,hl with| [a],_=>kp_binds X λ_=>by kernel_rfl⟩
    fn_law_together:=⟨"_law_together","_law_together",.none,.none,.none,.str ("law_on0375_01") 730,.ref 435,.none,.type "function",none,none,#[],by kernel_rfl,by kernel_rfl,λvals hl=>match vals,hl with| [a],_=>by kernel_rfl⟩
    fn_law_form:=⟨"_law_form","_law_form",.none,.none,.none,.str ("law_on0375_01") 730,.ref 442,.none,.type "function",none,none,#[],by kernel_rfl,by kernel_rfl,λs vals X hl=>match vals,hl with| [a,b],_=>kp_binds X λ_=>by kernel_rfl⟩
    fn_law_pick:=⟨"_law_pick","_law_pick",.none,.none,.none,.str ("law_on0375_01") 730,.ref 390,.none,.type "function",none,none,#[],by kernel_rfl,by kernel_rfl,λs vals X hl=>match vals,hl with| [a,b],_=>kp_binds X λ_=>by kernel_rfl⟩
    b_min:=by kernel_rfl
    fn_law_prefix:=⟨"_law_prefix","_law_prefix",.none,.none,.none,.str ("law_on0375_01") 730,.ref 447,.none,.type "function",none,none,#[],by kernel_rfl,by kernel_rfl,λvals hl=>match vals,hl with| [a,b],_=>by kernel_rfl⟩
    fn_common_prefix:=⟨"common_prefix","common_prefix",.none,.none,.none,.str ("unicore.base") 194,.ref 60,.none,.type "function",none,none,#[],by kernel_rfl,by kernel_rfl,λs vals X hl=>match vals,hl with| [a,b],_=>kp_binds X λ_=>by kernel_rfl⟩
    fn_starts_at:=⟨"starts_at","starts_at",.none,.none,.none,.str ("unicore.base") 194,.ref 67,.none,.type "function",none,none,#[],by kernel_rfl,by kernel_rfl,λs vals X hl=>match vals,hl with| [a,b,c],_=>kp_binds X λ_=>by kernel_rfl⟩
    fn_law:=⟨"law","law",.none,.none,.none,.str ("law_on0375_01") 730,.ref 452,.none,.type "function",none,none,#[],by kernel_rfl,by kernel_rfl,λvals hl=>match vals,hl with| [a],_=>by kernel_rfl⟩
   }
   p:=by kernel_rfl
   hd:=⟨_,_,_,_,_,_,_,_,_,rfl,rfl,rfl,rfl,rfl,rfl,rfl,rfl,rfl⟩
   sys:=⟨_,rfl⟩
   sr:=sr_of (by kernel_rfl) (by kernel_rfl) (by kernel_rfl) (by kernel_rfl) (by kernel_rfl) (by kernel_rfl) (by kernel_rfl) (by kernel_rfl) (by kernel_rfl) (by kernel_rfl) (by kernel_rfl) (by kernel_rfl)
  })
theorem PySem.Challenge.cw_on0375_01_holds : PySem.Challenge.rw_on0375_01.Holds :=
 Mine.hd
