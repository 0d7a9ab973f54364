/- Values of the program's types:how large,the same,marked. -/
import Derived.Test.YtgmafgmjbaoomaaGreatCCover
set_option linter.unusedVariables false
set_option linter.unusedSimpArgs false
namespace Go.Proofs.YtgmafgmjbaoomaaGreat.B
open Go Go.Proofs.YtgmafgmjbaoomaaGreat.Bv
def sumT{α:Type}(n:α→Nat)(l:List α)(i:Nat):Nat:=((l.take i).map n).sum
def szLI{α:Type}(n:α→Nat)(a:List α)(left0 left i:Int):Prop:=0≤i∧i≤a.length∧0≤left∧left0=left+a.length+sumT n a i.toNat
def szLM{α:Type}(a:List α)(left0 left i:Int):Nat:=(a.length - i).toNat
def cpI{α:Type}(d:α)(a:List α)(i:Int)(out:List α):Prop:=0≤i∧i≤a.length∧out=a.take i.toNat++List.replicate (a.length - i.toNat) d
def cpM{α:Type}(a:List α)(i:Int)(out:List α):Nat:=(a.length - i).toNat
def eqLI{α:Type}(a b:List α)(i:Int):Prop:=0≤i∧i≤a.length∧a.length=b.length∧a.take i.toNat=b.take i.toNat
def eqLM{α:Type}(a b:List α)(i:Int):Nat:=(a.length - i).toNat
def cL{α:Type}(c:α→Int)(l:List α):Int:=(l.map c).sum
def mL{α:Type}(c:α→Int)(m:α→Int→α):List α→Int→List α
 | [],_=>[]
 | x::l,k=>m x k::mL c m l (k+c x)
def oL{α:Type}(c:α→Int)(o:α→Int→Bool):List α→Int→Bool
 | [],_=>true
 | x::l,k=>o x k&&oL c o l (k+c x)
theorem Xad{α:Type}(c:α→Int)(x:α)(l:List α):cL c (x::l)=c x+cL c l:=by simp[cL]
theorem Xfy{α:Type}(c:α→Int)(l r:List α):cL c (l++r)=cL c l+cL c r:=by simp[cL]
theorem Xjy{α:Type}{c:α→Int}(h:∀x,0≤c x):∀l,0≤cL c l
 | []=>by simp[cL]
 | x::l=>by have:=Xjy h l;have:=h x;rw[Xad];omega
theorem XgF{α:Type}(c:α→Int)(d:α){l:List α}{i:Nat}(h:i<l.length):cL c (l.take (i+1))=cL c (l.take i)+c (l.getD i d)∧cL c l=cL c (l.take i)+(c (l.getD i d)+cL c (l.drop (i+1))):=by
 constructor
 · rw[X0S d h,Xfy];simp[cL]
 · conv=>lhs;rw[←List.take_append_drop i l,Xfy,X66 d h,Xad]
structure mkI {α:Type} (c:α→Int) (m:α→Int→α) (a:List α) (k0 k i:Int) (l:List α):Prop where
 h1:0≤i
 h2:i≤a.length
 h3:k=k0+cL c (a.take i.toNat)
 h4:l=mL c m (a.take i.toNat) k0++a.drop i.toNat
def mkM{α:Type}(a:List α)(k0 k i:Int)(l:List α):Nat:=(a.length - i).toNat
structure hdI {α:Type} (c:α→Int) (o:α→Int→Bool) (a:List α) (k0 k i:Int):Prop where
 h1:0≤i
 h2:i≤a.length
 h3:k=k0+cL c (a.take i.toNat)
 h4:oL c o a k0=oL c o (a.drop i.toNat) k
def hdM{α:Type}(a:List α)(k0 k i:Int):Nat:=(a.length - i).toNat
def mtGo(n:Nat)(out:List UInt8):List UInt8:=if n=0 then out else mtGo (n / 10) (UInt8.ofNat (48+n % 10)::out)
termination_by n
decreasing_by omega
def fMT(k:Int):List UInt8:=if k≤0 then [109,48] else 109::mtGo k.toNat []
def mtI(k0 k:Int)(out:List UInt8):Prop:=0≤k∧0<k0∧out.length+k≤k0∧k0≤4611686018427387904∧mtGo k.toNat out=mtGo k0.toNat []
def mtM(k0 k:Int)(out:List UInt8):Nat:=k.toNat
def XlP.L(a0:Int):Nat→Option X0a:=fun p=>Go.Proofs.YtgmafgmjbaoomaaGreat.Bv.look p [(60,{kp:={hold:=[],slots:=[0,3],boxes:=[],rows:=[]},T:=(.pair (.int .i64) .str),I:=fun st y=>mtI a0 y.1 y.2,μ:=fun st y=>mtM a0 y.1 y.2})]
def c_1s(x:List UInt8):Int:=1
def XkS(x:List UInt8)(k:Int):List UInt8:=fMT k
def XkV(x:List UInt8)(k:Int):Bool:=decide (x=fMT k)
def Xkv.L(a0:(List U4q))(a1:Int):Nat→Option X0a:=fun p=>Go.Proofs.YtgmafgmjbaoomaaGreat.Bv.look p [(122,{kp:={hold:=[0],slots:=[1,5],boxes:=[],rows:=[]},T:=T0q,I:=fun st y=>szLI (fun s:List UInt8=>List.length s) a0 a1 y.1 y.2,μ:=fun st y=>szLM a0 a1 y.1 y.2})]
def Xkq.L(a0:(List U4q)):Nat→Option X0a:=fun p=>Go.Proofs.YtgmafgmjbaoomaaGreat.Bv.look p [(58,{kp:={hold:=[0,3],slots:=[4],boxes:=[],rows:=[{bx:=false,s:=3,i:=0,k:=1000387,e:=9,hot:=true}]},T:=(.pair (.int .i64) (.list .str)),I:=fun st y=>cpI ([]:U4q) a0 y.1 y.2,μ:=fun st y=>cpM a0 y.1 y.2})]
def Xkt.L(a0:(List U4q))(a1:(List U4q)):Nat→Option X0a:=fun p=>Go.Proofs.YtgmafgmjbaoomaaGreat.Bv.look p [(58,{kp:={hold:=[0,1],slots:=[5],boxes:=[],rows:=[]},T:=(.int .i64),I:=fun st y=>eqLI a0 a1 y,μ:=fun st y=>eqLM a0 a1 y})]
def Xis.L(a0:(List U4q))(a1:Int):Nat→Option X0a:=fun p=>Go.Proofs.YtgmafgmjbaoomaaGreat.Bv.look p [(26,{kp:={hold:=[0],slots:=[1,5],boxes:=[],rows:=[{bx:=false,s:=0,i:=0,k:=2,e:=9,hot:=true}]},T:=(.pair (.int .i64) (.pair (.int .i64) (.list .str))),I:=fun st y=>mkI c_1s XkS a0 a1 y.1 y.2.1 y.2.2,μ:=fun st y=>mkM a0 a1 y.1 y.2.1 y.2.2})]
def Xiv.L(a0:(List U4q))(a1:Int):Nat→Option X0a:=fun p=>Go.Proofs.YtgmafgmjbaoomaaGreat.Bv.look p [(26,{kp:={hold:=[0],slots:=[1,5],boxes:=[],rows:=[]},T:=T0q,I:=fun st y=>hdI c_1s XkV a0 a1 y.1 y.2,μ:=fun st y=>hdM a0 a1 y.1 y.2})]
end Go.Proofs.YtgmafgmjbaoomaaGreat.B
