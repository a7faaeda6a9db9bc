import Derived.Test.YtmonnlkagniolaaGreatKTy
import Derived.Test.YtmonnlkagniolaaGreatPbC
import Derived.Test.YtmonnlkagniolaaGreatPbV
import Derived.Test.YtmonnlkagniolaaGreatPbV
import Derived.Test.YtmonnlkagniolaaGreatKEpMu
import Derived.Test.YtmonnlkagniolaaGreatKEpMu
set_option linter.all false
set_option maxRecDepth 100000
namespace Go.Proofs.YtmonnlkagniolaaGreat
open Go Go.Pb Go.RowKit
def qz(x0:List ab)(x1:Int)(rec_:(List ab)->Int->Int)(K0:Int->Int):Nat->Int->Int->Int
 |0,x5_,x6_=>K0 x5_
 |m+1,x5_,x6_=>
  if((decide (x6_ < (x0.length:Int)))&&(decide (x5_ < 100)))then
   if((decide (x1=0))||(decide (40 < (((ix x0 x6_).Cond).length:Int))))then
    100
   else
   LET (rec_ ((ix x0 x6_).Then) (wr (x1-1))) λy111=>
   LET (rec_ ((ix x0 x6_).Else) (wr (x1-1))) λy114=>
   qz x0 x1 rec_ K0 m (wr ((wr (x5_+y111))+y114)) (x6_+1)
  else
  K0 x5_
def uh(rec_:(List ab)->Int->Int)(x0:List ab)(x1:Int):Int:=
 qz x0 x1 rec_ (λ(x5_115:Int)=>
  x5_115) (Int.toNat ((x0.length:Int)-0)) (x0.length:Int) 0
def py:Nat->(List ab)->Int->Int
 |0,_,_=>default
 |n_+1,x0,x1=>uh (py n_) x0 x1
def ql(x0:List ab)(x1:Int):Int:=py (x1.toNat+1) x0 x1
def qj(x0:bm)(K0:Unit->Bool):Nat->Int->Bool
 |0,x3_=>K0 ()
 |m+1,x3_=>
  if(decide (30 < (((ix x0.Fields x3_).Name).length:Int)))then
   false
  else
  qj x0 K0 m (x3_+1)
def ur(x0:bm):Bool:=
 if((decide (30 < (x0.Name.length:Int)))||(decide (20 < (x0.Fields.length:Int))))then
  false
 else
 qj x0 (λ(_:Unit)=>
  true) (Int.toNat ((x0.Fields.length:Int)-0)) 0
def md(x0:cm)(K0:Unit->Bool):Nat->Int->Bool
 |0,x3_=>K0 ()
 |m+1,x3_=>
  if((decide (40 < (((ix x0.Body x3_).Index).length:Int)))||(decide (40 < (((ix x0.Body x3_).Value).length:Int))))then
   true
  else
  md x0 K0 m (x3_+1)
def tu(x0:cm):Bool:=
 if(((decide (8 < (x0.Params.length:Int)))||(decide (16 < (x0.Body.length:Int))))||(decide (60 < (x0.Name.length:Int))))then
  true
 else
 md x0 (λ(_:Unit)=>
  false) (Int.toNat ((x0.Body.length:Int)-0)) 0
def ue(x0:bh):Bool:=
 (((decide (8 < (x0.Extract.length:Int)))||(decide (12 < (x0.Cases.length:Int))))||(decide (60 < (x0.Name.length:Int))))
def jt(x0:aa)(K0:Unit->Bool):Nat->Int->Bool
 |0,x3_=>K0 ()
 |m+1,x3_=>
  LET (ur (ix x0.Headers x3_)) λy125=>
  if(!y125)then
   true
  else
  jt x0 K0 m (x3_+1)
def js(x0:aa)(K2:Unit->Bool):Nat->Int->Bool
 |0,x4_=>K2 ()
 |m+1,x4_=>
  LET (tu (ix x0.Actions x4_)) λy134=>
  if y134 then
   true
  else
  js x0 K2 m (x4_+1)
def kw(x0:aa)(K4:Unit->Bool):Nat->Int->Bool
 |0,x5_=>K4 ()
 |m+1,x5_=>
  if((((decide (10 < (((ix x0.Tables x5_).Keys).length:Int)))||(decide (24 < (((ix x0.Tables x5_).Actions).length:Int))))||(decide (8 < ((((ix x0.Tables x5_).Default).Args).length:Int))))||(decide (60 < (((ix x0.Tables x5_).Name).length:Int))))then
   true
  else
  kw x0 K4 m (x5_+1)
def oh(x0:aa)(K6:Unit->Bool):Nat->Int->Bool
 |0,x6_=>K6 ()
 |m+1,x6_=>
  LET (ue (ix x0.States x6_)) λy164=>
  if y164 then
   true
  else
  oh x0 K6 m (x6_+1)
def jk(x0:aa):Bool:=
 if(((((((((decide (60 < (x0.Name.length:Int)))||(decide (16 < (x0.Headers.length:Int))))||(decide (20 < (x0.Metadata.length:Int))))||(decide (8 < (x0.Registers.length:Int))))||(decide (24 < (x0.Actions.length:Int))))||(decide (16 < (x0.Tables.length:Int))))||(decide (16 < (x0.States.length:Int))))||(decide (16 < (x0.Deparser.length:Int))))||(decide (60 < (ql x0.Control 10))))then
  true
 else
 jt x0 (λ(_:Unit)=>
  js x0 (λ(_:Unit)=>
   kw x0 (λ(_:Unit)=>
    oh x0 (λ(_:Unit)=>
     false) (Int.toNat ((x0.States.length:Int)-0)) 0) (Int.toNat ((x0.Tables.length:Int)-0)) 0) (Int.toNat ((x0.Actions.length:Int)-0)) 0) (Int.toNat ((x0.Headers.length:Int)-0)) 0
def ny(x0:UInt8):Bool:=
 (((decide ((97:UInt8)<=x0))&&(decide (x0<=(122:UInt8))))||((decide ((65:UInt8)<=x0))&&(decide (x0<=(90:UInt8)))))
def qx(x0:UInt8):Bool:=
 ((decide ((48:UInt8)<=x0))&&(decide (x0<=(57:UInt8))))
def jf(x0:List UInt8)(K0:Unit->Bool):Nat->Int->Bool
 |0,x3_=>K0 ()
 |m+1,x3_=>
  LET (ny (ix x0 x3_)) λy107=>
  if(((!y107)&&(!(qx (ix x0 x3_))))&&(!decide ((ix x0 x3_)=(95:UInt8))))then
   false
  else
  jf x0 K0 m (x3_+1)
def fb(x0:List UInt8):Bool:=
 if(((decide (x0=([]:List UInt8)))||(decide (16 < (x0.length:Int))))||(!(ny (ix x0 0))))then
  false
 else
 jf x0 (λ(_:Unit)=>
  true) (Int.toNat ((x0.length:Int)-0)) 0
def ku(x0:Int)(x1:Int)(x2:Int)(x3:Int):af:=
 ({Code:=x0,Part:=x1,Item:=x2,Sub:=x3}:af)
def zp(x0:aa):af:=
 LET (fb x0.Name) λy103=>
 if(!y103)then
  LET (ku 6 0 0 0) λy105=>
  y105
 else
 if(decide (8 < (x0.Headers.length:Int)))then
  LET (ku 12 0 1 0) λy110=>
  y110
 else
 if(decide (4 < (x0.Registers.length:Int)))then
  LET (ku 12 0 3 0) λy115=>
  y115
 else
 if(decide (16 < (x0.Actions.length:Int)))then
  LET (ku 12 0 4 0) λy120=>
  y120
 else
 if(decide (12 < (x0.Tables.length:Int)))then
  LET (ku 12 0 5 0) λy125=>
  y125
 else
 ({Code:=0,Part:=0,Item:=0,Sub:=0}:af)
def mj(x0:bm)(x1:List UInt8)(K0:Unit->(Int×Bool)):Nat->Int->(Int×Bool)
 |0,x6_=>K0 ()
 |m+1,x6_=>
  if(decide (((ix x0.Fields x6_).Name)=x1))then
   (x6_,true)
  else
  mj x0 x1 K0 m (x6_+1)
def rt(x0:bm)(x1:List UInt8):Int×Bool:=
 mj x0 x1 (λ(_:Unit)=>
  (0,false)) (Int.toNat ((x0.Fields.length:Int)-0)) 0
def qp(x0:bm)(K1:Int->Int):Nat->Int->Int->Int
 |0,x3_,x4_=>K1 x3_
 |m+1,x3_,x4_=>
  LET (rt x0 ((ix x0.Fields x4_).Name)) λy116=>
  LET (fb ((ix x0.Fields x4_).Name)) λy117=>
  if(!y117)then
   6
  else
  if((decide (((ix x0.Fields x4_).Width) < 1))||(decide (32 < ((ix x0.Fields x4_).Width))))then
   10
  else
  if(decide (y116.1 < x4_))then
   7
  else
  qp x0 K1 m (wr (x3_+((ix x0.Fields x4_).Width))) (x4_+1)
def xh(x0:bm):Int:=
 LET (fb x0.Name) λy101=>
 if(!y101)then
  6
 else
 if(decide ((x0.Fields.length:Int)=0))then
  8
 else
 if(decide (12 < (x0.Fields.length:Int)))then
  12
 else
 qp x0 (λ(x3_122:Int)=>
  if(!decide ((Int.tmod x3_122 8)=0))then
   10
  else
  0) (Int.toNat ((x0.Fields.length:Int)-0)) 0 0
def my(x0:aa)(x3_:Int)(K2:Int->af):Nat->Int->Int->af
 |0,x4_,x5_=>K2 x4_
 |m+1,x4_,x5_=>
  if((decide (x5_ < x3_))&&(decide (x4_=0)))then
   if(decide (((ix x0.Headers x5_).Name)=((ix x0.Headers x3_).Name)))then
    my x0 x3_ K2 m 7 (x5_+1)
   else
   my x0 x3_ K2 m x4_ (x5_+1)
  else
  K2 x4_
def pd(x0:aa)(K0:af->af):Nat->Int->af->af
 |0,x3_,zE102=>K0 zE102
 |m+1,x3_,zE102=>
  LET (xh (ix x0.Headers x3_)) λy109=>
  LET (λ(x4_114:Int)=>
   my x0 x3_ (λ(x4_124:Int)=>
    if(!decide (x4_124=0))then
     LET (ku x4_124 1 x3_ 0) λy126=>
     y126
    else
    pd x0 K0 m (x3_+1) zE102) (Int.toNat (x3_-0)) x4_114 0) λk114=>
  if((decide (y109=0))&&(decide (((ix x0.Headers x3_).Name)=([109,101,116,97]:List UInt8))))then
   k114 6
  else
  k114 y109
def xt(x0:aa):af:=
 pd x0 (λ(zE102_130:af)=>
  ({Code:=0,Part:=0,Item:=0,Sub:=0}:af)) (Int.toNat ((x0.Headers.length:Int)-0)) 0 ({Code:=0,Part:=0,Item:=0,Sub:=0}:af)
def qi(x0:List av)(x1:Int)(K0:Unit->Int):Nat->Int->Int
 |0,x5_=>K0 ()
 |m+1,x5_=>
  if(decide (((ix x0 x5_).Name)=((ix x0 x1).Name)))then
   7
  else
  qi x0 x1 K0 m (x5_+1)
def zx(x0:List av)(x1:Int):Int:=
 LET (fb ((ix x0 x1).Name)) λy102=>
 if(!y102)then
  6
 else
 if((decide (((ix x0 x1).Width) < 1))||(decide (32 < ((ix x0 x1).Width))))then
  10
 else
 qi x0 x1 (λ(_:Unit)=>
  0) (Int.toNat (x1-0)) 0
def od(x0:aa)(K0:af->af):Nat->Int->af->af
 |0,x3_,zE102=>K0 zE102
 |m+1,x3_,zE102=>
  LET (zx x0.Metadata x3_) λy113=>
  if(!decide (y113=0))then
   LET (ku y113 2 x3_ 0) λy115=>
   y115
  else
  od x0 K0 m (x3_+1) zE102
def oc(x0:aa)(K2:af->af):Nat->Int->af->af
 |0,x6_,zE102=>K2 zE102
 |m+1,x6_,zE102=>
  if((decide ((x0.Metadata.length:Int)<=x6_))||(!decide ((ix x0.Metadata x6_)=(ix ([({Name:=([105,110]:List UInt8),Width:=8}:av),({Name:=([111,117,116]:List UInt8),Width:=8}:av),({Name:=([100,114,111,112]:List UInt8),Width:=1}:av)]:List av) x6_))))then
   LET (ku 5 2 x6_ 0) λy128=>
   y128
  else
  oc x0 K2 m (x6_+1) zE102
def vy(x0:aa):af:=
 if(decide (12 < (x0.Metadata.length:Int)))then
  LET (ku 12 2 0 0) λy105=>
  y105
 else
 od x0 (λ(zE102_118:af)=>
  oc x0 (λ(zE102_131:af)=>
   ({Code:=0,Part:=0,Item:=0,Sub:=0}:af)) (Int.toNat ((([({Name:=([105,110]:List UInt8),Width:=8}:av),({Name:=([111,117,116]:List UInt8),Width:=8}:av),({Name:=([100,114,111,112]:List UInt8),Width:=1}:av)]:List av).length:Int)-0)) 0 zE102_118) (Int.toNat ((x0.Metadata.length:Int)-0)) 0 ({Code:=0,Part:=0,Item:=0,Sub:=0}:af)
def wq(x0:cj):Int:=
 LET (fb x0.Name) λy101=>
 if(!y101)then
  6
 else
 if((decide (x0.Width < 1))||(decide (32 < x0.Width)))then
  10
 else
 if((decide (x0.Size < 1))||(decide (64 < x0.Size)))then
  9
 else
 0
def lv(x0:aa)(x3_:Int)(K2:Int->af):Nat->Int->Int->af
 |0,x4_,x5_=>K2 x4_
 |m+1,x4_,x5_=>
  if((decide (x5_ < x3_))&&(decide (x4_=0)))then
   if(decide (((ix x0.Registers x5_).Name)=((ix x0.Registers x3_).Name)))then
    lv x0 x3_ K2 m 7 (x5_+1)
   else
   lv x0 x3_ K2 m x4_ (x5_+1)
  else
  K2 x4_
def nj(x0:aa)(K0:af->af):Nat->Int->af->af
 |0,x3_,zE102=>K0 zE102
 |m+1,x3_,zE102=>
  LET (wq (ix x0.Registers x3_)) λy109=>
  lv x0 x3_ (λ(x4_119:Int)=>
   if(!decide (x4_119=0))then
    LET (ku x4_119 3 x3_ 0) λy121=>
    y121
   else
   nj x0 K0 m (x3_+1) zE102) (Int.toNat (x3_-0)) y109 0
def uy(x0:aa):af:=
 nj x0 (λ(zE102_124:af)=>
  ({Code:=0,Part:=0,Item:=0,Sub:=0}:af)) (Int.toNat ((x0.Registers.length:Int)-0)) 0 ({Code:=0,Part:=0,Item:=0,Sub:=0}:af)
def lh(x0:List av)(x3_:Int)(K3:Unit->Int):Nat->Int->Int
 |0,x4_=>K3 ()
 |m+1,x4_=>
  if(decide (((ix x0 x4_).Name)=((ix x0 x3_).Name)))then
   7
  else
  lh x0 x3_ K3 m (x4_+1)
def lj(x0:List av)(K0:Unit->Int):Nat->Int->Int
 |0,x3_=>K0 ()
 |m+1,x3_=>
  LET (fb ((ix x0 x3_).Name)) λy104=>
  if(!y104)then
   6
  else
  if((decide (((ix x0 x3_).Width) < 1))||(decide (32 < ((ix x0 x3_).Width))))then
   10
  else
  lh x0 x3_ (λ(_:Unit)=>
   lj x0 K0 m (x3_+1)) (Int.toNat (x3_-0)) 0
def sa(x0:List av):Int:=
 lj x0 (λ(_:Unit)=>
  0) (Int.toNat ((x0.length:Int)-0)) 0
def qk(x0:aa)(x1:Int):au:=
 ({Program:=x0,Params:=(ix x0.Actions x1).Params}:au)
def ni(x0:aa)(x1:ae):Int×Bool:=
 LET (λ(x6_109:List av)=>
  if((decide (x1.Field < 0))||(decide ((x6_109.length:Int)<=x1.Field)))then
   (0,false)
  else
  ((ix x6_109 x1.Field).Width,true)) λk109=>
 if(!decide (x1.Header=(-1)))then
  if((decide (x1.Header < 0))||(decide ((x0.Headers.length:Int)<=x1.Header)))then
   (0,false)
  else
  k109 ((ix x0.Headers x1.Header).Fields)
 else
 k109 x0.Metadata
def gi(x0:Int):Int:=
 if((decide (1<=x0))&&(decide (x0<=4)))then
  0
 else
 if((decide (5<=x0))&&(decide (x0<=8)))then
  1
 else
 if((decide (9<=x0))&&(decide (x0<=16)))then
  2
 else
 if(decide (x0=17))then
  3
 else
 (-1)
def qs(x0:Int):Int×Int:=
 if((decide (x0 < 1))||(decide (32 < x0)))then
  (0,10)
 else
 (x0,0)
def iu(x0:Int):Bool:=
 ((decide (1<=x0))&&(decide (x0<=32)))
def ri(K0:(BitVec 64)->(BitVec 64)):Nat->(BitVec 64)->Int->(BitVec 64)
 |0,x3_,x4_=>K0 x3_
 |m+1,x3_,x4_=>
  ri K0 m (2#64*x3_) (x4_+1)
def ju(x0:Int):(BitVec 64):=
 ri (λ(x3_103:BitVec 64)=>
  x3_103) (Int.toNat (x0-0)) 1#64 0
def ol(x0:Int):(BitVec 32):=
 LET (iu x0) λy101=>
 if(!y101)then
  0#32
 else
 LET (ju x0) λy103=>
 (BitVec.setWidth 32 (y103-1#64))
def uc(x0:ak)(x1:au):Int×Int:=
 if(decide (x0.Op=1))then
  LET (qs x0.W) λy102=>
  if((decide (y102.2=0))&&((decide (x0.N < 0))||(decide (((ol y102.1).toNat:Int) < x0.N))))then
   (0,9)
  else
  (y102.1,y102.2)
 else
 if(decide (x0.Op=2))then
  LET (ni x1.Program ({Header:=x0.N,Field:=x0.W}:ae)) λy109=>
  if(!y109.2)then
   (0,8)
  else
  LET (qs y109.1) λy111=>
  (y111.1,y111.2)
 else
 if(decide (x0.Op=3))then
  if((decide (x0.N < 0))||(decide ((x1.Params.length:Int)<=x0.N)))then
   (0,8)
  else
  LET (qs ((ix x1.Params x0.N).Width)) λy118=>
  (y118.1,y118.2)
 else
 if((decide (x0.N < 0))||(decide ((x1.Program.Headers.length:Int)<=x0.N)))then
  (0,8)
 else
 (1,0)
def iw(x0:ak)(x1:List Int):Int×Int:=
 if(decide (x0.Op=5))then
  ((ix x1 0),0)
 else
 LET (λ(x13_103:Bool)=>
  if x13_103 then
   if((decide (x0.N < 0))||(decide (31 < x0.N)))then
    (0,9)
   else
   ((ix x1 0),0)
  else
  if(decide (x0.Op=8))then
   if(decide (x0.N < 0))then
    (0,9)
   else
   if(((decide (x0.W < 1))||(decide (32 < x0.W)))||(decide ((wr ((ix x1 0)-x0.W)) < x0.N)))then
    (0,10)
   else
   (x0.W,0)
  else
  if(decide (x0.Op=14))then
   LET (qs (wr ((ix x1 0)+(ix x1 1)))) λy113=>
   (y113.1,y113.2)
  else
  if(decide (x0.Op=17))then
   if((!decide ((ix x1 0)=1))||(!decide ((ix x1 1)=(ix x1 2))))then
    (0,10)
   else
   ((ix x1 1),0)
  else
  if(!decide ((ix x1 0)=(ix x1 1)))then
   (0,10)
  else
  if((decide (x0.Op=15))||(decide (x0.Op=16)))then
   (1,0)
  else
  ((ix x1 0),0)) λk103=>
 if(decide (x0.Op=6))then
  k103 (decide (x0.Op=6))
 else
 k103 (decide (x0.Op=7))
def mb(x0:List ak)(x2:au)(rec_:(List ak)->Int->au->(Int×Int×Int))(K0:Int->(List Int)->(Int×Int×Int)):Nat->Int->Int->(List Int)->(Int×Int×Int)
 |0,x13_,x14_,zE109=>K0 x13_ zE109
 |m+1,x13_,x14_,zE109=>
  LET (rec_ x0 x13_ x2) λy112=>
  if(!decide (y112.2.2=0))then
   (0,y112.2.1,y112.2.2)
  else
  mb x0 x2 rec_ K0 m y112.2.1 (x14_+1) (zE109++([y112.1]:List Int))
def oo(rec_:(List ak)->Int->au->(Int×Int×Int))(x0:List ak)(x1:Int)(x2:au):Int×Int×Int:=
 if(decide ((x0.length:Int)<=x1))then
  (0,x1,3)
 else
 LET (gi ((ix x0 x1).Op)) λy103=>
 if(decide (y103 < 0))then
  (0,x1,11)
 else
 if(decide (y103=0))then
  LET (uc (ix x0 x1) x2) λy107=>
  (y107.1,(wr (x1+1)),y107.2)
 else
 mb x0 x2 rec_ (λ(x13_116:Int)(zE109_116:List Int)=>
  LET (iw (ix x0 x1) zE109_116) λy118=>
  (y118.1,x13_116,y118.2)) (Int.toNat (y103-0)) (wr (x1+1)) 0 ([]:List Int)
def jc:Nat->(List ak)->Int->au->(Int×Int×Int)
 |0,x0,x1,x2=>(0,0,1)
 |n_+1,x0,x1,x2=>oo (jc n_) x0 x1 x2
def ph(x0:List ak)(x1:Int)(x2:au):Int×Int×Int:=jc ((x0.length-x1.toNat)+1) x0 x1 x2
def ma(x0:List ak)(x1:au):Int×Int:=
 if(decide (24 < (x0.length:Int)))then
  (0,12)
 else
 LET (ph x0 0 x1) λy102=>
 if(!decide (y102.2.2=0))then
  (0,y102.2.2)
 else
 if(decide (y102.2.1 < (x0.length:Int)))then
  (0,4)
 else
 (y102.1,0)
def tf(x0:List ak)(x1:au)(x2:Int):Int:=
 LET (ma x0 x1) λy101=>
 if((decide (y101.2=0))&&(!decide (y101.1=x2)))then
  10
 else
 y101.2
def pv(x0:aa)(x1:bf)(x2:au):Int:=
 LET (ni x0 x1.Dst) λy102=>
 if(decide (x1.Kind=1))then
  if(!y102.2)then
   8
  else
  LET (tf x1.Value x2 y102.1) λy108=>
  y108
 else
 LET (λ(x43_110:Bool)=>
  if x43_110 then
   if((decide (x1.Header < 0))||(decide ((x0.Headers.length:Int)<=x1.Header)))then
    8
   else
   0
  else
  if(decide (x1.Kind=4))then
   if((!y102.2)||(!((decide (0<=x1.Register))&&(decide (x1.Register < (x0.Registers.length:Int))))))then
    8
   else
   LET (ma x1.Index x2) λy119=>
   if((decide (y119.2=0))&&(!decide (y102.1=((ix x0.Registers x1.Register).Width))))then
    10
   else
   y119.2
  else
  if(decide (x1.Kind=5))then
   if(!((decide (0<=x1.Register))&&(decide (x1.Register < (x0.Registers.length:Int)))))then
    8
   else
   LET (ma x1.Index x2) λy127=>
   if(!decide (y127.2=0))then
    y127.2
   else
   LET (tf x1.Value x2 ((ix x0.Registers x1.Register).Width)) λy132=>
   y132
  else
  11) λk110=>
 if(decide (x1.Kind=2))then
  k110 (decide (x1.Kind=2))
 else
 k110 (decide (x1.Kind=3))
def nl(x0:aa)(x1:Int)(K1:Unit->(Int×Int)):Nat->Int->(Int×Int)
 |0,x7_=>K1 ()
 |m+1,x7_=>
  LET (qk x0 x1) λy126=>
  LET (pv x0 (ix ((ix x0.Actions x1).Body) x7_) y126) λy128=>
  if(!decide (y128=0))then
   (x7_,y128)
  else
  nl x0 x1 K1 m (x7_+1)
def me(x0:aa)(x1:Int):Int×Int:=
 if((decide (x1 < 0))||(decide ((x0.Actions.length:Int)<=x1)))then
  ((-1),8)
 else
 LET (fb ((ix x0.Actions x1).Name)) λy109=>
 if(!y109)then
  ((-1),6)
 else
 if((decide (4 < (((ix x0.Actions x1).Params).length:Int)))||(decide (12 < (((ix x0.Actions x1).Body).length:Int))))then
  ((-1),12)
 else
 LET (sa ((ix x0.Actions x1).Params)) λy116=>
 if(!decide (y116=0))then
  LET (sa ((ix x0.Actions x1).Params)) λy119=>
  ((-1),y119)
 else
 nl x0 x1 (λ(_:Unit)=>
  (0,0)) (Int.toNat ((((ix x0.Actions x1).Body).length:Int)-0)) 0
def oq(x0:aa)(x3_:Int)(K2:af->af):Nat->Int->af->af
 |0,x6_,zE102n2=>K2 zE102n2
 |m+1,x6_,zE102n2=>
  if(decide (((ix x0.Actions x6_).Name)=((ix x0.Actions x3_).Name)))then
   LET (ku 7 4 x3_ 0) λy119=>
   y119
  else
  oq x0 x3_ K2 m (x6_+1) zE102n2
def pf(x0:aa)(K0:af->af):Nat->Int->af->af
 |0,x3_,zE102=>K0 zE102
 |m+1,x3_,zE102=>
  LET (me x0 x3_) λy107=>
  if(!decide (y107.2=0))then
   LET (ku y107.2 4 x3_ y107.1) λy109=>
   y109
  else
  oq x0 x3_ (λ(zE102n2_122:af)=>
   pf x0 K0 m (x3_+1) zE102n2_122) (Int.toNat (x3_-0)) 0 zE102
def xx(x0:aa):af:=
 pf x0 (λ(zE102_123:af)=>
  ({Code:=0,Part:=0,Item:=0,Sub:=0}:af)) (Int.toNat ((x0.Actions.length:Int)-0)) 0 ({Code:=0,Part:=0,Item:=0,Sub:=0}:af)
def ab4(x0:aa)(x1:ae):Int:=
 LET (λ(x5_108:List av)=>
  if(((((decide (x1.Header < (-1)))||(decide (x1.Field < 0)))||(decide ((x5_108.length:Int)<=x1.Field)))||(decide (((ix x5_108 x1.Field).Width) < 1)))||(decide (32 < ((ix x5_108 x1.Field).Width))))then
   0
  else
  (ix x5_108 x1.Field).Width) λk108=>
 if(decide (0<=x1.Header))then
  if(decide ((x0.Headers.length:Int)<=x1.Header))then
   0
  else
  k108 ((ix x0.Headers x1.Header).Fields)
 else
 k108 x0.Metadata
def px(x0:aa)(x1:bz)(K0:Int->Int->(Int×Int)):Nat->Int->Int->Int->(Int×Int)
 |0,x6_,x7_,x8_=>K0 x6_ x7_
 |m+1,x6_,x7_,x8_=>
  LET (ab4 x0 ((ix x1.Keys x8_).Field)) λy108=>
  if(decide (y108=0))then
   (x8_,8)
  else
  if(((!decide (((ix x1.Keys x8_).Kind)=1))&&(!decide (((ix x1.Keys x8_).Kind)=2)))&&(!decide (((ix x1.Keys x8_).Kind)=3)))then
   (x8_,11)
  else
  if(decide (((ix x1.Keys x8_).Kind)=2))then
   px x0 x1 K0 m (wr (x6_+y108)) (wr (x7_+1)) (x8_+1)
  else
  px x0 x1 K0 m (wr (x6_+y108)) x7_ (x8_+1)
def ym(x0:aa)(x1:bz):Int×Int:=
 px x0 x1 (λ(x6_116:Int)(x7_116:Int)=>
  if(decide (1 < x7_116))then
   ((-2),7)
  else
  if(decide (64 < x6_116))then
   ((-2),10)
  else
  (0,0)) (Int.toNat ((x1.Keys.length:Int)-0)) 0 0 0
def qn(x0:List Int)(x1:Int)(K0:Unit->Int):Nat->Int->Int
 |0,x5_=>K0 ()
 |m+1,x5_=>
  if(decide ((ix x0 x5_)=x1))then
   x5_
  else
  qn x0 x1 K0 m (x5_+1)
def xe(x0:List Int)(x1:Int):Int:=
 qn x0 x1 (λ(_:Unit)=>
  (-1)) (Int.toNat ((x0.length:Int)-0)) 0
def ah4(x0:BitVec 32)(x1:Int):Bool:=
 LET (iu x1) λy101=>
 (y101&&(decide ((BitVec.setWidth 64 x0) < (ju x1))))
def nh(x0:aa)(x1:cp)(K0:Unit->Int):Nat->Int->Int
 |0,x6_=>K0 ()
 |m+1,x6_=>
  LET (ah4 (ix x1.Args x6_) ((ix ((ix x0.Actions x1.Action).Params) x6_).Width)) λy113=>
  if(!y113)then
   9
  else
  nh x0 x1 K0 m (x6_+1)
def iy(x0:aa)(x1:cp):Int:=
 if((decide (x1.Action < 0))||(decide ((x0.Actions.length:Int)<=x1.Action)))then
  8
 else
 if(!decide ((x1.Args.length:Int)=(((ix x0.Actions x1.Action).Params).length:Int)))then
  2
 else
 nh x0 x1 (λ(_:Unit)=>
  0) (Int.toNat ((((ix x0.Actions x1.Action).Params).length:Int)-0)) 0
def pb(x0:aa)(x1:bz)(K0:Unit->Int):Nat->Int->Int
 |0,x5_=>K0 ()
 |m+1,x5_=>
  if((decide ((ix x1.Actions x5_) < 0))||(decide ((x0.Actions.length:Int)<=(ix x1.Actions x5_))))then
   8
  else
  LET (xe x1.Actions (ix x1.Actions x5_)) λy112=>
  if(decide (y112 < x5_))then
   7
  else
  pb x0 x1 K0 m (x5_+1)
def xi(x0:aa)(x1:bz):Int:=
 pb x0 x1 (λ(_:Unit)=>
  LET (xe x1.Actions x1.Default.Action) λy117=>
  if(decide (y117 < 0))then
   8
  else
  LET (iy x0 x1.Default) λy120=>
  y120) (Int.toNat ((x1.Actions.length:Int)-0)) 0
def um(x0:aa)(x1:Int):Int×Int:=
 if((decide (x1 < 0))||(decide ((x0.Tables.length:Int)<=x1)))then
  ((-1),8)
 else
 LET (fb ((ix x0.Tables x1).Name)) λy109=>
 if(!y109)then
  ((-1),6)
 else
 if((decide (6 < (((ix x0.Tables x1).Keys).length:Int)))||(decide (16 < (((ix x0.Tables x1).Actions).length:Int))))then
  ((-1),12)
 else
 if((decide (((ix x0.Tables x1).Size) < 1))||(decide (256 < ((ix x0.Tables x1).Size))))then
  ((-1),9)
 else
 LET (ym x0 (ix x0.Tables x1)) λy117=>
 if(!decide (y117.2=0))then
  (y117.1,y117.2)
 else
 LET (xi x0 (ix x0.Tables x1)) λy119=>
 if(!decide (y119=0))then
  ((-3),y119)
 else
 (0,0)
def pw(x0:aa)(x3_:Int)(K2:af->af):Nat->Int->af->af
 |0,x6_,zE102n2=>K2 zE102n2
 |m+1,x6_,zE102n2=>
  if(decide (((ix x0.Tables x6_).Name)=((ix x0.Tables x3_).Name)))then
   LET (ku 7 5 x3_ 0) λy119=>
   y119
  else
  pw x0 x3_ K2 m (x6_+1) zE102n2
def pu(x0:aa)(K0:af->af):Nat->Int->af->af
 |0,x3_,zE102=>K0 zE102
 |m+1,x3_,zE102=>
  LET (um x0 x3_) λy107=>
  if(!decide (y107.2=0))then
   LET (ku y107.2 5 x3_ y107.1) λy109=>
   y109
  else
  pw x0 x3_ (λ(zE102n2_122:af)=>
   pu x0 K0 m (x3_+1) zE102n2_122) (Int.toNat (x3_-0)) 0 zE102
def yq(x0:aa):af:=
 pu x0 (λ(zE102_123:af)=>
  ({Code:=0,Part:=0,Item:=0,Sub:=0}:af)) (Int.toNat ((x0.Tables.length:Int)-0)) 0 ({Code:=0,Part:=0,Item:=0,Sub:=0}:af)
def fx(x0:aa)(x1:ae):Int:=
 LET (λ(x5_108:List av)=>
  if(((((decide (x1.Header < (-1)))||(decide (x1.Field < 0)))||(decide ((x5_108.length:Int)<=x1.Field)))||(decide (((ix x5_108 x1.Field).Width) < 1)))||(decide (32 < ((ix x5_108 x1.Field).Width))))then
   0
  else
  (ix x5_108 x1.Field).Width) λk108=>
 if(decide (0<=x1.Header))then
  if(decide ((x0.Headers.length:Int)<=x1.Header))then
   0
  else
  k108 ((ix x0.Headers x1.Header).Fields)
 else
 k108 x0.Metadata
def sh(K0:(BitVec 64)->Bool):Nat->(BitVec 64)->Int->Bool
 |0,x5_,x6_=>K0 x5_
 |m+1,x5_,x6_=>
  sh K0 m (2#64*x5_) (x6_+1)
def sx(x0:BitVec 32)(x1:Int):Bool:=
 sh (λ(x5_103:BitVec 64)=>
  (decide ((BitVec.setWidth 64 x0) < x5_103))) (Int.toNat (x1-0)) 1#64 0
def zc(x0:aa)(x1:Int)(x2:Int):Bool:=
 (((decide (x2=(-1)))||(decide (x2=(-2))))||((decide (x1 < x2))&&(decide (x2 < (x0.States.length:Int)))))
def qu(x0:aa)(x1:Int)(y107:Int)(K0:Unit->(Int×Int)):Nat->Int->(Int×Int)
 |0,x8_=>K0 ()
 |m+1,x8_=>
  LET (sx ((ix ((ix x0.States x1).Cases) x8_).Value) y107) λy117=>
  if((!y117)||(!(sx ((ix ((ix x0.States x1).Cases) x8_).Mask) y107)))then
   (x8_,9)
  else
  if(!decide ((((ix ((ix x0.States x1).Cases) x8_).Value)&&&((ix ((ix x0.States x1).Cases) x8_).Mask))=((ix ((ix x0.States x1).Cases) x8_).Value)))then
   (x8_,5)
  else
  LET (zc x0 x1 ((ix ((ix x0.States x1).Cases) x8_).Next)) λy122=>
  if(!y122)then
   (x8_,14)
  else
  qu x0 x1 y107 K0 m (x8_+1)
def ww(x0:aa)(x1:Int):Int×Int:=
 LET (fx x0 ((ix x0.States x1).On)) λy107=>
 qu x0 x1 y107 (λ(_:Unit)=>
  ((-1),0)) (Int.toNat ((((ix x0.States x1).Cases).length:Int)-0)) 0
def rk(x0:aa)(x1:Int)(K0:Unit->(Int×Int)):Nat->Int->(Int×Int)
 |0,x7_=>K0 ()
 |m+1,x7_=>
  if(decide (((ix x0.States x7_).Name)=((ix x0.States x1).Name)))then
   ((-1),7)
  else
  rk x0 x1 K0 m (x7_+1)
def qv(x0:aa)(x1:Int)(K2:Unit->(Int×Int)):Nat->Int->(Int×Int)
 |0,x8_=>K2 ()
 |m+1,x8_=>
  if((decide ((ix ((ix x0.States x1).Extract) x8_) < 0))||(decide ((x0.Headers.length:Int)<=(ix ((ix x0.States x1).Extract) x8_))))then
   ((-1),8)
  else
  qv x0 x1 K2 m (x8_+1)
def wv(x0:aa)(x1:Int):Int×Int:=
 LET (fb ((ix x0.States x1).Name)) λy106=>
 if(!y106)then
  ((-1),6)
 else
 rk x0 x1 (λ(_:Unit)=>
  if((decide (4 < (((ix x0.States x1).Extract).length:Int)))||(decide (8 < (((ix x0.States x1).Cases).length:Int))))then
   ((-1),12)
  else
  qv x0 x1 (λ(_:Unit)=>
   if(((ix x0.States x1).Select)&&(decide ((fx x0 ((ix x0.States x1).On))=0)))then
    ((-1),8)
   else
   if((!((ix x0.States x1).Select))&&(decide (0 < (((ix x0.States x1).Cases).length:Int))))then
    ((-1),11)
   else
   LET (ww x0 x1) λy135=>
   if(!decide (y135.2=0))then
    (y135.1,y135.2)
   else
   LET (zc x0 x1 ((ix x0.States x1).Default)) λy137=>
   if(!y137)then
    ((-1),14)
   else
   (0,0)) (Int.toNat ((((ix x0.States x1).Extract).length:Int)-0)) 0) (Int.toNat (x1-0)) 0
def ro(x0:aa)(K0:Unit->(Int×Int×Int)):Nat->Int->(Int×Int×Int)
 |0,x5_=>K0 ()
 |m+1,x5_=>
  LET (wv x0 x5_) λy109=>
  if(!decide (y109.2=0))then
   (x5_,y109.1,y109.2)
  else
  ro x0 K0 m (x5_+1)
def ut(x0:aa):Int×Int×Int:=
 if(decide ((x0.States.length:Int)=0))then
  ((-1),(-1),8)
 else
 if(decide (12 < (x0.States.length:Int)))then
  ((-1),(-1),12)
 else
 ro x0 (λ(_:Unit)=>
  (0,0,0)) (Int.toNat ((x0.States.length:Int)-0)) 0
def qw(x0:List ab)(rec_:(List ab)->Int)(K0:Int->Int):Nat->Int->Int->Int
 |0,x3_,x4_=>K0 x3_
 |m+1,x3_,x4_=>
  LET (rec_ ((ix x0 x4_).Then)) λy105=>
  LET (rec_ ((ix x0 x4_).Else)) λy108=>
  qw x0 rec_ K0 m (wr (x3_+(wr ((wr (1+y105))+y108)))) (x4_+1)
def uj(rec_:(List ab)->Int)(x0:List ab):Int:=
 qw x0 rec_ (λ(x3_109:Int)=>
  x3_109) (Int.toNat ((x0.length:Int)-0)) 0 0
def qb:Nat->(List ab)->Int
 |0,_=>default
 |n_+1,x0=>uj (qb n_) x0
def ac1(x0:List ab):Int:=qb (csl x0+1) x0
def ow(x0:List ab)(rec_:(List ab)->Int)(K0:Int->Int):Nat->Int->Int->Int
 |0,x3_,x4_=>K0 x3_
 |m+1,x3_,x4_=>
  LET (rec_ ((ix x0 x4_).Then)) λy105=>
  LET (rec_ ((ix x0 x4_).Else)) λy108=>
  ow x0 rec_ K0 m (max (max x3_ (wr (1+y105))) (wr (1+y108))) (x4_+1)
def sq(rec_:(List ab)->Int)(x0:List ab):Int:=
 ow x0 rec_ (λ(x3_109:Int)=>
  x3_109) (Int.toNat ((x0.length:Int)-0)) 0 0
def nu:Nat->(List ab)->Int
 |0,_=>default
 |n_+1,x0=>sq (nu n_) x0
def xp(x0:List ab):Int:=nu (csl x0+1) x0
def jr(x0:List ab)(rec_:(List ab)->(List ab))(K0:(List ab)->(List ab)):Nat->Int->(List ab)->(List ab)
 |0,x4_,zE102=>K0 zE102
 |m+1,x4_,zE102=>
  LET (rec_ ((ix x0 x4_).Then)) λy110=>
  LET (rec_ ((ix x0 x4_).Else)) λy115=>
  jr x0 rec_ K0 m (x4_+1) (((zE102++([(ix x0 x4_)]:List ab))++y110)++y115)
def ou(rec_:(List ab)->(List ab))(x0:List ab):(List ab):=
 jr x0 rec_ (λ(zE102_118:List ab)=>
  zE102_118) (Int.toNat ((x0.length:Int)-0)) 0 ([]:List ab)
def jp:Nat->(List ab)->(List ab)
 |0,x0=>[]
 |n_+1,x0=>ou (jp n_) x0
def vx(x0:List ab):(List ab):=jp (csl x0+1) x0
def xl(x0:ab):Bool:=
 ((decide (x0.Kind=1))||(decide (x0.Kind=3)))
def lb(x0:List ab)(x1:Int)(K0:Unit->Bool):Nat->Int->Bool
 |0,x5_=>K0 ()
 |m+1,x5_=>
  LET (xl (ix x0 x5_)) λy104=>
  if(y104&&(decide (((ix x0 x5_).Table)=((ix x0 x1).Table))))then
   true
  else
  lb x0 x1 K0 m (x5_+1)
def sf(x0:List ab)(x1:Int):Bool:=
 lb x0 x1 (λ(_:Unit)=>
  false) (Int.toNat (x1-0)) 0
def vc(x0:aa)(x1:List ab)(x2:Int):Int:=
 if((decide (((ix x1 x2).Kind) < 1))||(decide (3 < ((ix x1 x2).Kind))))then
  11
 else
 if(decide (((ix x1 x2).Kind)=2))then
  LET (ma ((ix x1 x2).Cond) ({Program:=x0,Params:=([]:List av)}:au)) λy110=>
  LET (λ(x9_113:Int)=>
   x9_113) λk113=>
  if((decide (y110.2=0))&&(!decide (y110.1=1)))then
   k113 10
  else
  k113 y110.2
 else
 if((decide (((ix x1 x2).Table) < 0))||(decide ((x0.Tables.length:Int)<=((ix x1 x2).Table))))then
  8
 else
 LET (sf x1 x2) λy118=>
 if y118 then
  7
 else
 if((decide (((ix x1 x2).Kind)=1))&&(decide (0 < (wr ((((ix x1 x2).Then).length:Int)+(((ix x1 x2).Else).length:Int))))))then
  5
 else
 0
def qh(x0:aa)(y108:(List ab))(K1:Unit->(Int×Int)):Nat->Int->(Int×Int)
 |0,x5_=>K1 ()
 |m+1,x5_=>
  LET (vc x0 y108 x5_) λy112=>
  if(!decide (y112=0))then
   (x5_,y112)
  else
  qh x0 y108 K1 m (x5_+1)
def xc(x0:aa):Int×Int:=
 LET (ac1 x0.Control) λy102=>
 if(decide (24 < y102))then
  ((-1),12)
 else
 LET (xp x0.Control) λy105=>
 if(decide (6 < y105))then
  ((-1),14)
 else
 LET (vx x0.Control) λy108=>
 qh x0 y108 (λ(_:Unit)=>
  (0,0)) (Int.toNat ((y108.length:Int)-0)) 0
def rj(x0:aa)(x4_:Int)(K2:Unit->(Int×Int)):Nat->Int->(Int×Int)
 |0,x5_=>K2 ()
 |m+1,x5_=>
  if(decide ((ix x0.Deparser x5_)=(ix x0.Deparser x4_)))then
   (x4_,7)
  else
  rj x0 x4_ K2 m (x5_+1)
def qm(x0:aa)(K0:Unit->(Int×Int)):Nat->Int->(Int×Int)
 |0,x4_=>K0 ()
 |m+1,x4_=>
  if((decide ((ix x0.Deparser x4_) < 0))||(decide ((x0.Headers.length:Int)<=(ix x0.Deparser x4_))))then
   (x4_,8)
  else
  rj x0 x4_ (λ(_:Unit)=>
   qm x0 K0 m (x4_+1)) (Int.toNat (x4_-0)) 0
def xd(x0:aa):Int×Int:=
 if(decide (8 < (x0.Deparser.length:Int)))then
  ((-1),12)
 else
 qm x0 (λ(_:Unit)=>
  (0,0)) (Int.toNat ((x0.Deparser.length:Int)-0)) 0
def ag8(x0:aa):af:=
 LET (ut x0) λy103=>
 if(!decide (y103.2.2=0))then
  LET (ku y103.2.2 6 y103.1 y103.2.1) λy105=>
  y105
 else
 LET (xc x0) λy108=>
 if(!decide (y108.2=0))then
  LET (ku y108.2 7 y108.1 0) λy110=>
  y110
 else
 LET (xd x0) λy113=>
 if(!decide (y113.2=0))then
  LET (ku y113.2 8 y113.1 0) λy115=>
  y115
 else
 ({Code:=0,Part:=0,Item:=0,Sub:=0}:af)
def lk(x0:aa):af:=
 LET (zp x0) λy103=>
 LET (λ(zE106_112:af)=>
  LET (λ(zE106_117:af)=>
   LET (λ(zE106_122:af)=>
    LET (λ(zE106_127:af)=>
     LET (λ(zE106_132:af)=>
      LET (λ(zE106_137:af)=>
       zE106_137) λk137=>
      if(decide (zE106_132.Code=0))then
       LET (ag8 x0) λy140=>
       k137 y140
      else
      k137 zE106_132) λk132=>
     if(decide (zE106_127.Code=0))then
      LET (yq x0) λy144=>
      k132 y144
     else
     k132 zE106_127) λk127=>
    if(decide (zE106_122.Code=0))then
     LET (xx x0) λy148=>
     k127 y148
    else
    k127 zE106_122) λk122=>
   if(decide (zE106_117.Code=0))then
    LET (uy x0) λy152=>
    k122 y152
   else
   k122 zE106_117) λk117=>
  if(decide (zE106_112.Code=0))then
   LET (vy x0) λy156=>
   k117 y156
  else
  k117 zE106_112) λk112=>
 if(decide (y103.Code=0))then
  LET (xt x0) λy160=>
  k112 y160
 else
 k112 y103
def qy(x0:aa)(x1:ax)(K0:Unit->Bool):Nat->Int->Bool
 |0,x5_=>K0 ()
 |m+1,x5_=>
  if(!decide (((ix x1.Fields x5_).length:Int)=(((ix x0.Headers x5_).Fields).length:Int)))then
   false
  else
  qy x0 x1 K0 m (x5_+1)
def mq(x0:aa)(x1:ax):Bool:=
 if(((!decide ((x1.Valid.length:Int)=(x0.Headers.length:Int)))||(!decide ((x1.Fields.length:Int)=(x0.Headers.length:Int))))||(!decide ((x1.Metd.length:Int)=(x0.Metadata.length:Int))))then
  false
 else
 qy x0 x1 (λ(_:Unit)=>
  true) (Int.toNat ((x0.Headers.length:Int)-0)) 0
def qr(x0:aa)(x1:ax)(x5_:Int)(K2:Unit->Int):Nat->Int->Int
 |0,x6_=>K2 ()
 |m+1,x6_=>
  LET (fx x0 ({Header:=x5_,Field:=x6_}:ae)) λy115=>
  LET (sx (ix (ix x1.Fields x5_) x6_) y115) λy116=>
  if(!y116)then
   9
  else
  qr x0 x1 x5_ K2 m (x6_+1)
def rg(x0:aa)(x1:ax)(K0:Unit->Int):Nat->Int->Int
 |0,x5_=>K0 ()
 |m+1,x5_=>
  qr x0 x1 x5_ (λ(_:Unit)=>
   rg x0 x1 K0 m (x5_+1)) (Int.toNat (((ix x1.Fields x5_).length:Int)-0)) 0
def rd(x0:aa)(x1:ax)(K4:Unit->Int):Nat->Int->Int
 |0,x7_=>K4 ()
 |m+1,x7_=>
  LET (fx x0 ({Header:=(-1),Field:=x7_}:ae)) λy125=>
  LET (sx (ix x1.Metd x7_) y125) λy126=>
  if(!y126)then
   9
  else
  rd x0 x1 K4 m (x7_+1)
def qq(x1:ax)(x8_:Int)(K8:Unit->Int):Nat->Int->Int
 |0,x9_=>K8 ()
 |m+1,x9_=>
  if((!(ix x1.Valid x8_))&&(!decide ((ix (ix x1.Fields x8_) x9_)=0#32)))then
   5
  else
  qq x1 x8_ K8 m (x9_+1)
def re(x1:ax)(K6:Unit->Int):Nat->Int->Int
 |0,x8_=>K6 ()
 |m+1,x8_=>
  qq x1 x8_ (λ(_:Unit)=>
   re x1 K6 m (x8_+1)) (Int.toNat (((ix x1.Fields x8_).length:Int)-0)) 0
def mr(x0:aa)(x1:ax):Int:=
 LET (mq x0 x1) λy101=>
 if(!y101)then
  2
 else
 rg x0 x1 (λ(_:Unit)=>
  rd x0 x1 (λ(_:Unit)=>
   re x1 (λ(_:Unit)=>
    0) (Int.toNat ((x1.Fields.length:Int)-0)) 0) (Int.toNat ((x1.Metd.length:Int)-0)) 0) (Int.toNat ((x1.Fields.length:Int)-0)) 0
def jv(x0:List Int)(x1:Int)(K0:Unit->Bool):Nat->Int->Bool
 |0,x5_=>K0 ()
 |m+1,x5_=>
  if(decide ((ix x0 x5_)=x1))then
   true
  else
  jv x0 x1 K0 m (x5_+1)
def gu(x0:List Int)(x1:Int):Bool:=
 jv x0 x1 (λ(_:Unit)=>
  false) (Int.toNat ((x0.length:Int)-0)) 0
def ul:Bool:=true
def jx(x0:aa)(x1:ia):bz×Bool:=
 if((decide (x1.Table < 0))||(decide ((x0.Tables.length:Int)<=x1.Table)))then
  (({Name:=([]:List UInt8),Keys:=([]:List gb),Actions:=([]:List Int),Default:=({Action:=0,Args:=([]:List (BitVec 32))}:cp),Size:=0}:bz),false)
 else
 ((ix x0.Tables x1.Table),true)
def mc(x0:UInt8):Bool:=
 (((decide ((97:UInt8)<=x0))&&(decide (x0<=(122:UInt8))))||((decide ((65:UInt8)<=x0))&&(decide (x0<=(90:UInt8)))))
def mi(x0:List UInt8)(x1:UInt8->Bool)(K0:Int->Int):Nat->Int->Int
 |0,x5_=>K0 x5_
 |m+1,x5_=>
  if((decide (x5_ < (x0.length:Int)))&&(x1 (ix x0 x5_)))then
   mi x0 x1 K0 m (x5_+1)
  else
  K0 x5_
def vo(x0:List UInt8)(x1:UInt8->Bool):Int:=
 mi x0 x1 (λ(x5_107:Int)=>
  x5_107) (Int.toNat ((x0.length:Int)-0)) 0
def mm(x0:UInt8):Bool:=
 ((decide ((48:UInt8)<=x0))&&(decide (x0<=(57:UInt8))))
def ki(x0:UInt8):Bool:=
 LET (mc x0) λy101=>
 ((y101||(mm x0))||(decide (x0=(95:UInt8))))
def jy(x0:List UInt8):Bool:=
 if(((decide ((x0.length:Int)=0))||(decide (16 < (x0.length:Int))))||(!(mc (ix x0 0))))then
  false
 else
 LET (vo x0 ki) λy105=>
 (decide (y105=(x0.length:Int)))
def gq(x0:av)(c0:av):Bool:=
 (decide (x0.Name=c0.Name))
def ee(x0:List av)(x1:av->Bool)(K0:Unit->Int):Nat->Int->Int
 |0,x8_=>K0 ()
 |m+1,x8_=>
  if(x1 (ix x0 x8_))then
   x8_
  else
  ee x0 x1 K0 m (x8_+1)
def il(x0:List av)(x1:av->Bool):Int:=
 ee x0 x1 (λ(_:Unit)=>
  (-1)) (Int.toNat ((x0.length:Int)-0)) 0
def gw(x0:List av)(x1:av->Bool):Bool:=
 LET (il x0 x1) λy101=>
 (decide (0<=y101))
def io(x0:cm)(K1:Unit->Int):Nat->Int->Int
 |0,x24_=>K1 ()
 |m+1,x24_=>
  LET (jy ((ix x0.Params x24_).Name)) λy114=>
  if(!y114)then
   6
  else
  if((decide (((ix x0.Params x24_).Width) < 1))||(decide (32 < ((ix x0.Params x24_).Width))))then
   10
  else
  LET (gw (sub x0.Params 0 x24_) (λa_=>gq a_ (ix x0.Params x24_))) λy122=>
  if y122 then
   7
  else
  io x0 K1 m (x24_+1)
def jz(x0:cm):Int:=
 LET (jy x0.Name) λy101=>
 if(!y101)then
  6
 else
 if((decide (4 < (x0.Params.length:Int)))||(decide (12 < (x0.Body.length:Int))))then
  12
 else
 io x0 (λ(_:Unit)=>
  0) (Int.toNat ((x0.Params.length:Int)-0)) 0
def rq(x0:aa)(x1:ae):Int×Bool:=
 LET (λ(x6_109:List av)=>
  if((decide (x1.Field < 0))||(decide ((x6_109.length:Int)<=x1.Field)))then
   (0,false)
  else
  ((ix x6_109 x1.Field).Width,true)) λk109=>
 if(!decide (x1.Header=(-1)))then
  if((decide (x1.Header < 0))||(decide ((x0.Headers.length:Int)<=x1.Header)))then
   (0,false)
  else
  k109 ((ix x0.Headers x1.Header).Fields)
 else
 k109 x0.Metadata
def ej(x0:Int):Int:=
 LET (λ(x4_104:Bool)=>
  if x4_104 then
   0
  else
  LET (λ(x9_109:Bool)=>
   if x9_109 then
    1
   else
   LET (λ(x14_118:Bool)=>
    if x14_118 then
     2
    else
    if(decide (x0=17))then
     3
    else
    (-1)) λk118=>
   if(decide (x0=9))then
    k118 (decide (x0=9))
   else
   if(decide (x0=10))then
    k118 (decide (x0=10))
   else
   if(decide (x0=11))then
    k118 (decide (x0=11))
   else
   if(decide (x0=12))then
    k118 (decide (x0=12))
   else
   if(decide (x0=13))then
    k118 (decide (x0=13))
   else
   if(decide (x0=14))then
    k118 (decide (x0=14))
   else
   if(decide (x0=15))then
    k118 (decide (x0=15))
   else
   k118 (decide (x0=16))) λk109=>
  if(decide (x0=5))then
   k109 (decide (x0=5))
  else
  if(decide (x0=6))then
   k109 (decide (x0=6))
  else
  if(decide (x0=7))then
   k109 (decide (x0=7))
  else
  k109 (decide (x0=8))) λk104=>
 if(decide (x0=1))then
  k104 (decide (x0=1))
 else
 if(decide (x0=2))then
  k104 (decide (x0=2))
 else
 if(decide (x0=3))then
  k104 (decide (x0=3))
 else
 k104 (decide (x0=4))
def nr(x0:Int):Int×Int:=
 if((decide (x0 < 1))||(decide (32 < x0)))then
  (0,10)
 else
 (x0,0)
def mg(x0:List Int)(K0:Unit->Bool):Nat->Int->Bool
 |0,x7_=>K0 ()
 |m+1,x7_=>
  if((decide ((ix x0 x7_) < 1))||(decide (32 < (ix x0 x7_))))then
   false
  else
  mg x0 K0 m (x7_+1)
def ru(x0:List Int):Bool:=
 mg x0 (λ(_:Unit)=>
  true) (Int.toNat ((x0.length:Int)-0)) 0
def kn(x0:Int):(BitVec 32):=
 LET (ru ([x0]:List Int)) λy102=>
 if(!y102)then
  0#32
 else
 (4294967295#32>>>(wr (32-x0)).toNat)
def lu(x0:au)(x1:Int)(x2:Int):av×Bool:=
 LET (λ(x8_115:List av)=>
  if((decide (x2 < 0))||(decide ((x8_115.length:Int)<=x2)))then
   (({Name:=([]:List UInt8),Width:=0}:av),false)
  else
  ((ix x8_115 x2),true)) λk115=>
 if(!decide (x1=(-1)))then
  if((decide (x1 < 0))||(decide ((x0.Program.Headers.length:Int)<=x1)))then
   (({Name:=([]:List UInt8),Width:=0}:av),false)
  else
  k115 ((ix x0.Program.Headers x1).Fields)
 else
 k115 x0.Program.Metadata
def fg(x0:au)(x1:ak):Int×Int:=
 if(decide (x1.Op=1))then
  LET (nr x1.W) λy102=>
  if((decide (y102.2=0))&&((decide (x1.N < 0))||(decide (((kn y102.1).toNat:Int) < x1.N))))then
   (0,9)
  else
  (y102.1,y102.2)
 else
 if(decide (x1.Op=2))then
  LET (lu x0 x1.N x1.W) λy108=>
  if(!y108.2)then
   (0,8)
  else
  LET (nr y108.1.Width) λy114=>
  (y114.1,y114.2)
 else
 if(decide (x1.Op=3))then
  if((decide (x1.N < 0))||(decide ((x0.Params.length:Int)<=x1.N)))then
   (0,8)
  else
  LET (nr ((ix x0.Params x1.N).Width)) λy121=>
  (y121.1,y121.2)
 else
 if((decide (x1.N < 0))||(decide ((x0.Program.Headers.length:Int)<=x1.N)))then
  (0,8)
 else
 (1,0)
def ii(x0:ak)(x1:List Int):Int×Int:=
 LET (λ(x10_102:Bool)=>
  if x10_102 then
   if((decide (x0.N < 0))||(decide (31 < x0.N)))then
    (0,9)
   else
   LET (ej x0.Op) λy106=>
   if((decide (y106=2))&&(!decide ((ix x1 0)=(ix x1 1))))then
    (0,10)
   else
   if((decide (x0.Op=15))||(decide (x0.Op=16)))then
    (1,0)
   else
   ((ix x1 0),0)
  else
  if(decide (x0.Op=8))then
   if(decide (x0.N < 0))then
    (0,9)
   else
   LET (nr x0.W) λy116=>
   if((!decide (y116.2=0))||(decide ((wr ((ix x1 0)-x0.W)) < x0.N)))then
    (0,10)
   else
   (x0.W,0)
  else
  if(decide (x0.Op=14))then
   LET (nr (wr ((ix x1 0)+(ix x1 1)))) λy123=>
   (y123.1,y123.2)
  else
  if(decide (x0.Op=17))then
   if((!decide ((ix x1 0)=1))||(!decide ((ix x1 1)=(ix x1 2))))then
    (0,10)
   else
   ((ix x1 1),0)
  else
  LET (ej x0.Op) λy131=>
  if((decide (y131=2))&&(!decide ((ix x1 0)=(ix x1 1))))then
   (0,10)
  else
  if((decide (x0.Op=15))||(decide (x0.Op=16)))then
   (1,0)
  else
  ((ix x1 0),0)) λk102=>
 if(decide (x0.Op=6))then
  k102 (decide (x0.Op=6))
 else
 k102 (decide (x0.Op=7))
def dm(x0:au)(x1:List ak)(rec_:au->(List ak)->Int->(Int×Int×Int))(K1:Int->(List Int)->(Int×Int×Int)):Nat->Int->Int->(List Int)->(Int×Int×Int)
 |0,x7_,x44_,zE109=>K1 x7_ zE109
 |m+1,x7_,x44_,zE109=>
  LET (rec_ x0 x1 x7_) λy112=>
  if(!decide (y112.2.2=0))then
   (0,0,y112.2.2)
  else
  dm x0 x1 rec_ K1 m y112.2.1 (x44_+1) (zE109.set x44_.toNat y112.1)
def fe(rec_:au->(List ak)->Int->(Int×Int×Int))(x0:au)(x1:List ak)(x2:Int):Int×Int×Int:=
 if(decide ((x1.length:Int)<=x2))then
  (0,0,3)
 else
 LET (ej ((ix x1 x2).Op)) λy103=>
 if(decide (y103 < 0))then
  (0,0,11)
 else
 if(decide (y103=0))then
  LET (fg x0 (ix x1 x2)) λy107=>
  (y107.1,(wr (x2+1)),y107.2)
 else
 dm x0 x1 rec_ (λ(x7_116:Int)(zE109_116:List Int)=>
  LET (ii (ix x1 x2) zE109_116) λy118=>
  (y118.1,x7_116,y118.2)) (Int.toNat (y103-0)) (wr (x2+1)) 0 ([0,0,0]:List Int)
def dp:Nat->au->(List ak)->Int->(Int×Int×Int)
 |0,x0,x1,x2=>(0,0,1)
 |n_+1,x0,x1,x2=>fe (dp n_) x0 x1 x2
def dc(x0:au)(x1:List ak)(x2:Int):Int×Int×Int:=dp ((x1.length-x2.toNat)+1) x0 x1 x2
def mh(x0:List ak)(x1:au):Int×Int:=
 if(decide (24 < (x0.length:Int)))then
  (0,12)
 else
 LET (dc x1 x0 0) λy102=>
 if(!decide (y102.2.2=0))then
  (0,y102.2.2)
 else
 if(decide (y102.2.1 < (x0.length:Int)))then
  (0,4)
 else
 (y102.1,0)
def ij(x0:dt)(x1:List ak)(x2:Int):Int:=
 LET (mh x1 x0.scope) λy102=>
 if((decide (y102.2=0))&&(!decide (y102.1=x2)))then
  10
 else
 y102.2
def fi(x0:dt)(x1:bf):Int:=
 LET (rq x0.scope.Program x1.Dst) λy107=>
 if(decide (x1.Kind=1))then
  if(!y107.2)then
   8
  else
  LET (ij x0 x1.Value y107.1) λy113=>
  y113
 else
 LET (λ(x43_115:Bool)=>
  if x43_115 then
   if((decide (x1.Header < 0))||(decide ((x0.scope.Program.Headers.length:Int)<=x1.Header)))then
    8
   else
   0
  else
  LET (λ(x57_121:Bool)=>
   if x57_121 then
    if((!((decide (0<=x1.Register))&&(decide (x1.Register < (x0.scope.Program.Registers.length:Int)))))||((decide (x1.Kind=4))&&(!y107.2)))then
     8
    else
    LET (mh x1.Index x0.scope) λy128=>
    if(!decide (y128.2=0))then
     y128.2
    else
    if(decide (x1.Kind=5))then
     LET (ij x0 x1.Value ((ix x0.scope.Program.Registers x1.Register).Width)) λy134=>
     y134
    else
    if(!decide (y107.1=((ix x0.scope.Program.Registers x1.Register).Width)))then
     10
    else
    0
   else
   11) λk121=>
  if(decide (x1.Kind=4))then
   k121 (decide (x1.Kind=4))
  else
  k121 (decide (x1.Kind=5))) λk115=>
 if(decide (x1.Kind=2))then
  k115 (decide (x1.Kind=2))
 else
 k115 (decide (x1.Kind=3))
def ja(x0:aa)(x1:Int)(K0:Unit->(Int×Int)):Nat->Int->(Int×Int)
 |0,x37_=>K0 ()
 |m+1,x37_=>
  LET (fi ({scope:=({Program:=x0,Params:=(ix x0.Actions x1).Params}:au)}:dt) (ix ((ix x0.Actions x1).Body) x37_)) λy124=>
  if(!decide (y124=0))then
   (x37_,y124)
  else
  ja x0 x1 K0 m (x37_+1)
def lc(x0:aa)(x1:Int):Int×Int:=
 if((decide (x1 < 0))||(decide ((x0.Actions.length:Int)<=x1)))then
  ((-1),8)
 else
 LET (jz (ix x0.Actions x1)) λy109=>
 if(!decide (y109=0))then
  ((-1),y109)
 else
 ja x0 x1 (λ(_:Unit)=>
  (0,0)) (Int.toNat ((((ix x0.Actions x1).Body).length:Int)-0)) 0
def ko(x0:aa)(x1:Int):(List bf):=
 LET (lc x0 x1) λy101=>
 if(!decide (y101.2=0))then
  ([]:List bf)
 else
 (ix x0.Actions x1).Body
def sj(x0:Int):Bool:=
 (!decide (x0=x0))
def li(x0:Int)(x1:Int):Int:=
 LET (sj x0) λy101=>
 LET (sj x1) λy102=>
 if y101 then
  if y102 then
   0
  else
  (-1)
 else
 if y102 then
  1
 else
 if(decide (x0 < x1))then
  (-1)
 else
 if(decide (x1 < x0))then
  1
 else
 0
def mo(x0:List Int)(K0:Unit->Int):Nat->Int->Int
 |0,x8_=>K0 ()
 |m+1,x8_=>
  if(!decide ((ix x0 x8_)=0))then
   (ix x0 x8_)
  else
  mo x0 K0 m (x8_+1)
def tw(x0:List Int):Int:=
 mo x0 (λ(_:Unit)=>
  0) (Int.toNat ((x0.length:Int)-0)) 0
def ay6(x0:ae)(x1:ae):Int:=
 LET (li x0.Header x1.Header) λy101=>
 LET (li x0.Field x1.Field) λy102=>
 LET (tw ([y101,y102]:List Int)) λy104=>
 y104
def fm(x0:ae)(x1:ae):Int:=
 LET (li x0.Header x1.Header) λy101=>
 LET (li x0.Field x1.Field) λy102=>
 LET (tw ([y101,y102]:List Int)) λy104=>
 y104
def je(l:List Int):List Int:=l.mergeSort λx y=>decide (x<=y)
def br0(l:List ae):List ae:=l.mergeSort λx y=>!decide (ay6 y x < 0)
def jo(l:List ae):List ae:=l.mergeSort λx y=>!decide (fm y x < 0)
def kv(l:List ae):List ae:=cpt l
def ly(l:List Int):List Int:=cpt l
def gy(x0:kt):(List ae)×(List Int)×(List Int):=
 LET (jo x0.fields) λy102=>
 LET (je x0.headers) λy104=>
 LET (je x0.registers) λy106=>
 LET (kv y102) λy108=>
 LET (ly y104) λy111=>
 LET (ly y106) λy114=>
 (y108,y111,y114)
def ir(y103:(List bf))(x15_:Int)(K3:(List Int)->(List Int)->(List ae)->((List ae)×(List Int)×(List Int))):Nat->Int->(List Int)->(List Int)->(List ae)->((List ae)×(List Int)×(List Int))
 |0,x49_,zE110n2,zE108n2,zE106n2=>K3 zE110n2 zE108n2 zE106n2
 |m+1,x49_,zE110n2,zE108n2,zE106n2=>
  ir y103 x15_ K3 m (x49_+1) zE110n2 zE108n2 (zE106n2++([({Header:=(ix y103 x15_).Header,Field:=x49_}:ae)]:List ae))
def fq(x0:aa)(y103:(List bf))(K0:(List Int)->(List Int)->(List ae)->((List ae)×(List Int)×(List Int))):Nat->Int->(List Int)->(List Int)->(List ae)->((List ae)×(List Int)×(List Int))
 |0,x15_,zE110,zE108,zE106=>K0 zE110 zE108 zE106
 |m+1,x15_,zE110,zE108,zE106=>
  LET (λ(x21_118:Bool)=>
   if x21_118 then
    fq x0 y103 K0 m (x15_+1) zE110 zE108 (zE106++([(ix y103 x15_).Dst]:List ae))
   else
   LET (λ(x31_125:Bool)=>
    if x31_125 then
     ir y103 x15_ (λ(zE110n2_138:List Int)(zE108n2_138:List Int)(zE106n2_138:List ae)=>
      fq x0 y103 K0 m (x15_+1) zE110n2_138 zE108n2_138 zE106n2_138) (Int.toNat ((((ix x0.Headers ((ix y103 x15_).Header)).Fields).length:Int)-0)) 0 zE110 (zE108++([(ix y103 x15_).Header]:List Int)) zE106
    else
    if(decide (((ix y103 x15_).Kind)=5))then
     fq x0 y103 K0 m (x15_+1) (zE110++([(ix y103 x15_).Register]:List Int)) zE108 zE106
    else
    fq x0 y103 K0 m (x15_+1) zE110 zE108 zE106) λk125=>
   if(decide (((ix y103 x15_).Kind)=2))then
    k125 (decide (((ix y103 x15_).Kind)=2))
   else
   k125 (decide (((ix y103 x15_).Kind)=3))) λk118=>
  if(decide (((ix y103 x15_).Kind)=1))then
   k118 (decide (((ix y103 x15_).Kind)=1))
  else
  k118 (decide (((ix y103 x15_).Kind)=4))
def fc(x0:aa)(x1:Int):(List ae)×(List Int)×(List Int):=
 LET (ko x0 x1) λy103=>
 fq x0 y103 (λ(zE110_145:List Int)(zE108_145:List Int)(zE106_145:List ae)=>
  LET (gy ({fields:=zE106_145,headers:=zE108_145,registers:=zE110_145}:kt)) λy146=>
  (y146.1,y146.2.1,y146.2.2)) (Int.toNat ((y103.length:Int)-0)) 0 ([]:List Int) ([]:List Int) ([]:List ae)
def gj(x0:Int)(c0:ay):ay:=
 if(decide (0<=x0))then
  ({p:=c0.p,cells:=(c0.cells++([x0]:List Int))}:ay)
 else
 ({p:=c0.p,cells:=c0.cells}:ay)
def kj(x0:aa)(K0:(List Int)->(List Int)):Nat->Int->(List Int)->(List Int)
 |0,x19_,zE108=>K0 zE108
 |m+1,x19_,zE108=>
  kj x0 K0 m (x19_+1) (zE108.set (0:Int).toNat (wr ((ix zE108 (0:Int))+(((ix x0.Headers x19_).Fields).length:Int))))
def lz(x0:aa):(List Int):=
 kj x0 (λ(zE108_123:List Int)=>
  zE108_123) (Int.toNat ((x0.Headers.length:Int)-0)) 0 ([0,(x0.Headers.length:Int),(x0.Metadata.length:Int),(x0.Registers.length:Int)]:List Int)
def lg(x1:Int)(y101:(List Int))(K0:Int->Int):Nat->Int->Int->Int
 |0,x5_,x10_=>K0 x5_
 |m+1,x5_,x10_=>
  if(decide (x10_ < x1))then
   lg x1 y101 K0 m (wr (x5_+(ix y101 x10_))) (x10_+1)
  else
  lg x1 y101 K0 m x5_ (x10_+1)
def oi(x0:aa)(x1:Int):Int:=
 LET (lz x0) λy101=>
 lg x1 y101 (λ(x5_107:Int)=>
  x5_107) (Int.toNat (4-0)) 0 0
def qt(x0:aa)(x1:Int)(x2:Int):Int:=
 if((decide (x2 < 0))||(decide ((ix (lz x0) x1)<=x2)))then
  (-1)
 else
 LET (oi x0 x1) λy106=>
 (wr (y106+x2))
def jd(x0:aa)(x1:ae)(K0:Int->Int):Nat->Int->Int->Int
 |0,x5_,x52_=>K0 x5_
 |m+1,x5_,x52_=>
  jd x0 x1 K0 m (wr (x5_+(((ix (sub x0.Headers 0 x1.Header) x52_).Fields).length:Int))) (x52_+1)
def fd(x0:aa)(x1:ae):Int:=
 if(decide (x1.Header=(-1)))then
  LET (qt x0 2 x1.Field) λy102=>
  y102
 else
 if((((decide (x1.Header < 0))||(decide ((x0.Headers.length:Int)<=x1.Header)))||(decide (x1.Field < 0)))||(decide ((((ix x0.Headers x1.Header).Fields).length:Int)<=x1.Field)))then
  (-1)
 else
 jd x0 x1 (λ(x5_120:Int)=>
  x5_120) (Int.toNat (((sub x0.Headers 0 x1.Header).length:Int)-0)) x1.Field 0
def ga(x0:aa)(x1:Int):Int:=
 LET (qt x0 1 x1) λy101=>
 y101
def fk(x0:aa)(x1:Int):Int:=
 LET (qt x0 3 x1) λy101=>
 y101
def gh(x1:List ae)(K0:ay->ay):Nat->Int->ay->ay
 |0,x18_,zE1=>K0 zE1
 |m+1,x18_,zE1=>
  LET (fd zE1.p (ix x1 x18_)) λy107=>
  LET (gj y107 ({p:=zE1.p,cells:=zE1.cells}:ay)) λy108=>
  gh x1 K0 m (x18_+1) ({p:=y108.p,cells:=y108.cells}:ay)
def gg(x2:List Int)(K2:ay->ay):Nat->Int->ay->ay
 |0,x33_,zE1=>K2 zE1
 |m+1,x33_,zE1=>
  LET (ga zE1.p (ix x2 x33_)) λy114=>
  LET (gj y114 ({p:=zE1.p,cells:=zE1.cells}:ay)) λy115=>
  gg x2 K2 m (x33_+1) ({p:=y115.p,cells:=y115.cells}:ay)
def gf(x3:List Int)(K4:ay->ay):Nat->Int->ay->ay
 |0,x48_,zE1=>K4 zE1
 |m+1,x48_,zE1=>
  LET (fk zE1.p (ix x3 x48_)) λy121=>
  LET (gj y121 ({p:=zE1.p,cells:=zE1.cells}:ay)) λy122=>
  gf x3 K4 m (x48_+1) ({p:=y122.p,cells:=y122.cells}:ay)
def jh(x0:ay)(x1:List ae)(x2:List Int)(x3:List Int):ay:=
 gh x1 (λ(zE1_110:ay)=>
  gg x2 (λ(zE1_117:ay)=>
   gf x3 (λ(zE1_124:ay)=>
    ({p:=zE1_124.p,cells:=zE1_124.cells}:ay)) (Int.toNat ((x3.length:Int)-0)) 0 ({p:=zE1_117.p,cells:=zE1_117.cells}:ay)) (Int.toNat ((x2.length:Int)-0)) 0 ({p:=zE1_110.p,cells:=zE1_110.cells}:ay)) (Int.toNat ((x1.length:Int)-0)) 0 ({p:=x0.p,cells:=x0.cells}:ay)
def mz(x0:ay):(List Int):=
 LET (je x0.cells) λy101=>
 LET (ly y101) λy103=>
 y103
def kg(x0:aa)(y101:bz×Bool)(K0:ay->(List Int)):Nat->Int->ay->(List Int)
 |0,x24_,zE109=>K0 zE109
 |m+1,x24_,zE109=>
  LET (fc x0 (ix y101.1.Actions x24_)) λy120=>
  LET (jh ({p:=zE109.p,cells:=zE109.cells}:ay) y120.1 y120.2.1 y120.2.2) λy124=>
  kg x0 y101 K0 m (x24_+1) ({p:=y124.p,cells:=y124.cells}:ay)
def mn(x0:aa)(x1:ia):(List Int):=
 LET (jx x0 x1) λy101=>
 if(!y101.2)then
  ([]:List Int)
 else
 kg x0 y101 (λ(zE109_127:ay)=>
  LET (mz ({p:=zE109_127.p,cells:=zE109_127.cells}:ay)) λy128=>
  y128) (Int.toNat ((y101.1.Actions.length:Int)-0)) 0 ({p:=x0,cells:=([]:List Int)}:ay)
def gz(x0:ax)(x1:ae):Bool:=
 if(decide (x1.Header=(-1)))then
  ((decide (0<=x1.Field))&&(decide (x1.Field < (x0.Metd.length:Int))))
 else
 ((((decide (0<=x1.Header))&&(decide (x1.Header < (x0.Fields.length:Int))))&&(decide (0<=x1.Field)))&&(decide (x1.Field < ((ix x0.Fields x1.Header).length:Int))))
def lp(x0:ax)(x1:Int):Bool:=
 (((decide (0<=x1))&&(decide (x1 < (x0.Valid.length:Int))))&&(ix x0.Valid x1))
def ig(x0:ax)(x1:ae):(BitVec 32):=
 LET (gz x0 x1) λy101=>
 if(!y101)then
  0#32
 else
 if(decide (x1.Header=(-1)))then
  (ix x0.Metd x1.Field)
 else
 LET (lp x0 x1.Header) λy105=>
 if(!y105)then
  0#32
 else
 (ix (ix x0.Fields x1.Header) x1.Field)
def gn(x0:BitVec 64)(x1:Int):(BitVec 32):=
 LET (iu x1) λy101=>
 if(!y101)then
  0#32
 else
 LET (ju x1) λy103=>
 (BitVec.setWidth 32 (x0%y103))
def vt(x0:Bool):(BitVec 32):=
 if x0 then
  1#32
 else
 0#32
def ao0(x0:BitVec 32)(x1:Int):(BitVec 32):=
 LET (ol x1) λy101=>
 LET (gn (BitVec.setWidth 64 x0) x1) λy102=>
 (y101-y102)
def tr(x1:Int)(x2:Int)(K0:(BitVec 32)->(BitVec 32)):Nat->(BitVec 32)->Int->(BitVec 32)
 |0,x7_,x8_=>K0 x7_
 |m+1,x7_,x8_=>
  if((decide (x8_ < x1))&&(decide (x8_ < 32)))then
   LET (gn (2#64*(BitVec.setWidth 64 x7_)) x2) λy106=>
   tr x1 x2 K0 m y106 (x8_+1)
  else
  K0 x7_
def an7(x0:BitVec 32)(x1:Int)(x2:Int):(BitVec 32):=
 LET (gn (BitVec.setWidth 64 x0) x2) λy101=>
 tr x1 x2 (λ(x7_107:BitVec 32)=>
  x7_107) (Int.toNat (x1-0)) y101 0
def tq(x1:Int)(K0:(BitVec 32)->(BitVec 32)):Nat->(BitVec 32)->Int->(BitVec 32)
 |0,x7_,x8_=>K0 x7_
 |m+1,x7_,x8_=>
  if((decide (x8_ < x1))&&(decide (x8_ < 32)))then
   tq x1 K0 m (x7_ / 2#32) (x8_+1)
  else
  K0 x7_
def an8(x0:BitVec 32)(x1:Int)(x2:Int):(BitVec 32):=
 LET (gn (BitVec.setWidth 64 x0) x2) λy101=>
 tq x1 (λ(x7_106:BitVec 32)=>
  x7_106) (Int.toNat (x1-0)) y101 0
def ab5(x0:BitVec 32)(x1:Int)(x2:Int):(BitVec 32):=
 LET (iu x2) λy101=>
 if(((!y101)||(decide (x1 < 0)))||(decide ((wr (32-x2)) < x1)))then
  0#32
 else
 LET (ju x1) λy105=>
 LET (gn ((BitVec.setWidth 64 x0) / y105) x2) λy106=>
 y106
def ap4(x0:BitVec 32)(x1:BitVec 32)(x2:Int):(BitVec 32):=
 LET (gn ((BitVec.setWidth 64 x0)+(BitVec.setWidth 64 x1)) x2) λy101=>
 y101
def an9(x0:BitVec 32)(x1:BitVec 32)(x2:Int):(BitVec 32):=
 LET (iu x2) λy101=>
 if(!y101)then
  0#32
 else
 LET (ju x2) λy103=>
 LET (gn (BitVec.setWidth 64 x0) x2) λy104=>
 LET (gn (BitVec.setWidth 64 x1) x2) λy105=>
 LET (gn ((y103+(BitVec.setWidth 64 y104))-(BitVec.setWidth 64 y105)) x2) λy106=>
 y106
def vm(x0:BitVec 32)(x1:Int)(x2:BitVec 32)(x3:Int):(BitVec 32)×Bool:=
 LET (iu x1) λy101=>
 if(((!y101)||(!(iu x3)))||(decide (32 < (wr (x1+x3)))))then
  (0#32,false)
 else
 LET (gn (BitVec.setWidth 64 x0) x1) λy106=>
 LET (ju x3) λy107=>
 LET (gn (BitVec.setWidth 64 x2) x3) λy108=>
 (((BitVec.setWidth 32 ((BitVec.setWidth 64 y106)*y107))+y108),true)
def rc(x0:ak)(x1:List bn):(BitVec 32):=
 if(decide (x0.Op=5))then
  LET (ao0 ((ix x1 0).V) ((ix x1 0).W)) λy104=>
  y104
 else
 if(decide (x0.Op=6))then
  LET (an7 ((ix x1 0).V) x0.N ((ix x1 0).W)) λy107=>
  y107
 else
 if(decide (x0.Op=7))then
  LET (an8 ((ix x1 0).V) x0.N ((ix x1 0).W)) λy110=>
  y110
 else
 if(decide (x0.Op=8))then
  LET (ab5 ((ix x1 0).V) x0.N x0.W) λy113=>
  y113
 else
 if(decide (x0.Op=9))then
  LET (ap4 ((ix x1 0).V) ((ix x1 1).V) ((ix x1 0).W)) λy117=>
  y117
 else
 if(decide (x0.Op=10))then
  LET (an9 ((ix x1 0).V) ((ix x1 1).V) ((ix x1 0).W)) λy121=>
  y121
 else
 if(decide (x0.Op=11))then
  (((ix x1 0).V)&&&((ix x1 1).V))
 else
 if(decide (x0.Op=12))then
  (((ix x1 0).V)|||((ix x1 1).V))
 else
 if(decide (x0.Op=13))then
  (((ix x1 0).V)^^^((ix x1 1).V))
 else
 if(decide (x0.Op=14))then
  LET (vm ((ix x1 0).V) ((ix x1 0).W) ((ix x1 1).V) ((ix x1 1).W)) λy135=>
  y135.1
 else
 if(decide (x0.Op=15))then
  LET (vt (decide (((ix x1 0).V)=((ix x1 1).V)))) λy139=>
  y139
 else
 if(decide (x0.Op=16))then
  LET (vt (decide (((ix x1 0).V) < ((ix x1 1).V)))) λy143=>
  y143
 else
 if(decide (((ix x1 0).V)=1#32))then
  (ix x1 1).V
 else
 (ix x1 2).V
def jl(x0:List ak)(x1:Int)(x2:au)(x3:ax)(x4:List (BitVec 32))(rec_:(List ak)->Int->au->ax->(List (BitVec 32))->bn)(K1:Int->(List bn)->bn):Nat->Int->Int->(List bn)->bn
 |0,x17_,x18_,zE128=>K1 x17_ zE128
 |m+1,x17_,x18_,zE128=>
  LET (gi ((ix x0 x1).Op)) λy132=>
  if(decide (x18_ < y132))then
   LET (rec_ x0 x17_ x2 x3 x4) λy134=>
   jl x0 x1 x2 x3 x4 rec_ K1 m y134.To (wr (x18_+1)) (zE128++([y134]:List bn))
  else
  K1 x17_ zE128
def kx(rec_:(List ak)->Int->au->ax->(List (BitVec 32))->bn)(x0:List ak)(x1:Int)(x2:au)(x3:ax)(x4:List (BitVec 32)):bn:=
 LET (ph x0 x1 x2) λy107=>
 if(decide (((ix x0 x1).Op)=1))then
  ({V:=(BitVec.ofInt 32 ((ix x0 x1).N)),W:=y107.1,To:=(wr (x1+1))}:bn)
 else
 if(decide (((ix x0 x1).Op)=2))then
  LET (ig x3 ({Header:=(ix x0 x1).N,Field:=(ix x0 x1).W}:ae)) λy111=>
  LET (gn (BitVec.setWidth 64 y111) y107.1) λy112=>
  ({V:=y112,W:=y107.1,To:=(wr (x1+1))}:bn)
 else
 if(decide (((ix x0 x1).Op)=3))then
  LET (λ(x15_117:BitVec 32)=>
   ({V:=x15_117,W:=y107.1,To:=(wr (x1+1))}:bn)) λk117=>
  if(decide (((ix x0 x1).N) < (x4.length:Int)))then
   LET (gn (BitVec.setWidth 64 (ix x4 ((ix x0 x1).N))) y107.1) λy120=>
   k117 y120
  else
  k117 0#32
 else
 if(decide (((ix x0 x1).Op)=4))then
  LET (vt ((decide (((ix x0 x1).N) < (x3.Valid.length:Int)))&&(ix x3.Valid ((ix x0 x1).N)))) λy125=>
  ({V:=y125,W:=y107.1,To:=(wr (x1+1))}:bn)
 else
 jl x0 x1 x2 x3 x4 rec_ (λ(x17_141:Int)(zE128_141:List bn)=>
  LET (rc (ix x0 x1) zE128_141) λy142=>
  ({V:=y142,W:=y107.1,To:=x17_141}:bn)) (Int.toNat ((gi ((ix x0 x1).Op)-0))) (wr (x1+1)) 0 ([]:List bn)
def oa:Nat->(List ak)->Int->au->ax->(List (BitVec 32))->bn
 |0,x0,x1,x2,x3,x4=>{V:=0#32,W:=0,To:=(dc x2 x0 x1).2.1}
 |n_+1,x0,x1,x2,x3,x4=>kx (oa n_) x0 x1 x2 x3 x4
def av6(x0:List ak)(x1:Int)(x2:au)(x3:ax)(x4:List (BitVec 32)):bn:=oa ((x0.length-x1.toNat)+1) x0 x1 x2 x3 x4
def yp(x0:List ak)(x1:au)(x2:ax)(x3:List (BitVec 32)):(BitVec 32):=
 LET (ma x0 x1) λy101=>
 if(!decide (y101.2=0))then
  0#32
 else
 LET (av6 x0 0 x1 x2 x3) λy103=>
 y103.V
def xy(x0:List (List Bool))(K0:(List Bool)->(List Bool)):Nat->Int->(List Bool)->(List Bool)
 |0,x8_,zE102=>K0 zE102
 |m+1,x8_,zE102=>
  xy x0 K0 m (x8_+1) (zE102++(ix x0 x8_))
def cx9(x0:List (List Bool)):(List Bool):=
 xy x0 (λ(zE102_107:List Bool)=>
  zE102_107) (Int.toNat ((x0.length:Int)-0)) 0 ([]:List Bool)
def wj(x0:List (List (BitVec 32)))(K0:(List (BitVec 32))->(List (BitVec 32))):Nat->Int->(List (BitVec 32))->(List (BitVec 32))
 |0,x8_,zE102=>K0 zE102
 |m+1,x8_,zE102=>
  wj x0 K0 m (x8_+1) (zE102++(ix x0 x8_))
def cg1(x0:List (List (BitVec 32))):(List (BitVec 32)):=
 wj x0 (λ(zE102_107:List (BitVec 32))=>
  zE102_107) (Int.toNat ((x0.length:Int)-0)) 0 ([]:List (BitVec 32))
def yf(x0:List (List UInt8))(K0:(List UInt8)->(List UInt8)):Nat->Int->(List UInt8)->(List UInt8)
 |0,x8_,zE102=>K0 zE102
 |m+1,x8_,zE102=>
  yf x0 K0 m (x8_+1) (zE102++(ix x0 x8_))
def cy0(x0:List (List UInt8)):(List UInt8):=
 yf x0 (λ(zE102_107:List UInt8)=>
  zE102_107) (Int.toNat ((x0.length:Int)-0)) 0 ([]:List UInt8)
def et5(x0:ax):ax:=x0
def ai0(x0:List bm)(x1:Int):bm:=
 if((decide (x1 < 0))||(decide ((x0.length:Int)<=x1)))then
  ({Name:=([]:List UInt8),Fields:=([]:List av)}:bm)
 else
 (ix x0 x1)
def bs1(x0:aa)(x1:Int):(List av):=
 if(decide (x1=(-1)))then
  x0.Metadata
 else
 LET (ai0 x0.Headers x1) λy104=>
 y104.Fields
def ap5(x0:List av)(x1:Int):av:=
 if((decide (x1 < 0))||(decide ((x0.length:Int)<=x1)))then
  ({Name:=([]:List UInt8),Width:=0}:av)
 else
 (ix x0 x1)
def az5(x0:aa)(x1:ae):Int:=
 LET (bs1 x0 x1.Header) λy101=>
 LET (ap5 y101 x1.Field) λy103=>
 LET (kn y103.Width) λy105=>
 if(decide (y105=0#32))then
  0
 else
 y103.Width
def af6(x0:List (BitVec 32))(x1:Int):Bool:=
 ((decide (0<=x1))&&(decide (x1 < (x0.length:Int))))
def ar8(x0:List (List (BitVec 32)))(x1:Int):(List (BitVec 32)):=
 if((decide (x1 < 0))||(decide ((x0.length:Int)<=x1)))then
  ([]:List (BitVec 32))
 else
 (ix x0 x1)
def bn2(x0:List Bool)(x1:Int):Bool:=
 if((decide (x1 < 0))||(decide ((x0.length:Int)<=x1)))then
  false
 else
 (ix x0 x1)
def bj8(x0:ax)(x1:ae):(List (BitVec 32))×Bool:=
 if(decide (x1=({Header:=(-1),Field:=x1.Field}:ae)))then
  LET (af6 x0.Metd x1.Field) λy104=>
  (x0.Metd,y104)
 else
 LET (ar8 x0.Fields x1.Header) λy106=>
 LET (bn2 x0.Valid x1.Header) λy109=>
 (y106,(y109&&(af6 y106 x1.Field)))
def fk4(x0:aa)(x1:ax)(x2:ae)(x3:BitVec 32):ax:=
 if(bj8 x1 x2).2&&decide (0 < az5 x0 x2)then putF x1 x2 (x3&&&kn (az5 x0 x2))else x1
def ab0(x0:ax):ax:=x0
def nq(K0:(BitVec 64)->(BitVec 32)):Nat->(BitVec 64)->Int->(BitVec 32)
 |0,x5_,x6_=>K0 x5_
 |m+1,x5_,x6_=>
  nq K0 m (2#64*x5_) (x6_+1)
def jn(x0:BitVec 32)(x1:Int):(BitVec 32):=
 nq (λ(x5_103:BitVec 64)=>
  (BitVec.setWidth 32 ((BitVec.setWidth 64 x0)%x5_103))) (Int.toNat (x1-0)) 1#64 0
def ot(x0:aa)(x1:ax)(x2:ae)(x3:BitVec 32):ax:=
 if(decide (fx x0 x2=0)||!gz x1 x2)||(!decide (x2.Header= -1)&&!lp x1 x2.Header)then x1 else putF x1 x2 (jn x3 (fx x0 x2))
def rp(x0:ax)(x1:Int)(x2:Bool):ax:=swE x0 x1 x2
def nt(x0:aa)(x1:ax)(x2:Int):ax:=
 if((((decide (x2 < 0))||(decide ((x0.Headers.length:Int)<=x2)))||(decide ((x1.Valid.length:Int)<=x2)))||(ix x1.Valid x2))then
  LET (ab0 x1) λy110=>
  y110
 else
 LET (rp x1 x2 true) λy113=>
 y113
def lr(x0:aa)(x1:ax)(x2:Int):ax:=
 if(((decide (x2 < 0))||(decide ((x0.Headers.length:Int)<=x2)))||(decide ((x1.Valid.length:Int)<=x2)))then
  LET (ab0 x1) λy108=>
  y108
 else
 LET (rp x1 x2 false) λy111=>
 y111
def rn(x0:aa)(x1:List (List (BitVec 32)))(x2:Int)(x3:BitVec 32):Bool:=
 (((((decide (0<=x2))&&(decide (x2 < (x0.Registers.length:Int))))&&(decide (x2 < (x1.length:Int))))&&(decide ((x3.toNat:Int) < ((ix x0.Registers x2).Size))))&&(decide ((x3.toNat:Int) < ((ix x1 x2).length:Int))))
def ah5(x0:aa)(x1:List (List (BitVec 32)))(x2:Int)(x3:BitVec 32):(BitVec 32):=
 LET (rn x0 x1 x2 x3) λy101=>
 if(!y101)then
  0#32
 else
 (ix (ix x1 x2) (x3.toNat:Int))
def ao7(x0:List (List (BitVec 32))):List (List (BitVec 32)):=x0
def te(x0:cj):Int:=
 if((decide (x0.Width < 1))||(decide (32 < x0.Width)))then
  0
 else
 x0.Width
def ae3(x0:jw)(x1:Int)(x2:BitVec 32):Bool:=
 if(((decide (x1 < 0))||(decide ((x0.p.Registers.length:Int)<=x1)))||(decide ((x0.cells.length:Int)<=x1)))then
  false
 else
 ((decide ((x2.toNat:Int) < ((ix x0.p.Registers x1).Size)))&&(decide ((x2.toNat:Int) < ((ix x0.cells x1).length:Int))))
def cg9(x0:aa)(x1:List (List (BitVec 32)))(x2:Int)(x3 x4:BitVec 32):List (List (BitVec 32)):=
 if ae3 {p:=x0,cells:=x1} x2 x3&&decide (0#32 < kn (ix x0.Registers x2).Width)then x1.set x2.toNat ((ix x1 x2).set x3.toNat (x4&&&kn (ix x0.Registers x2).Width))else x1
def ll(x0:aa)(x1:List (List (BitVec 32)))(x2:Int)(x3 x4:BitVec 32):List (List (BitVec 32)):=
 if !rn x0 x1 x2 x3||decide (te (ix x0.Registers x2)=0)then x1 else x1.set x2.toNat ((ix x1 x2).set x3.toNat (jn x4 (ix x0.Registers x2).Width))
def ft(x0:aa)(x1:cp)(y110:au)(K0:(List (List (BitVec 32)))->ax->(ax×(List (List (BitVec 32))))):Nat->(List (List (BitVec 32)))->Int->ax->(ax×(List (List (BitVec 32))))
 |0,x3_,x14_,zE102=>K0 x3_ zE102
 |m+1,x3_,x14_,zE102=>
  LET (yp ((ix ((ix x0.Actions x1.Action).Body) x14_).Index) y110 zE102 x1.Args) λy127=>
  LET (yp ((ix ((ix x0.Actions x1.Action).Body) x14_).Value) y110 zE102 x1.Args) λy130=>
  if(decide (((ix ((ix x0.Actions x1.Action).Body) x14_).Kind)=1))then
   LET (ot x0 zE102 ((ix ((ix x0.Actions x1.Action).Body) x14_).Dst) y130) λy133=>
   ft x0 x1 y110 K0 m x3_ (x14_+1) y133
  else
  if(decide (((ix ((ix x0.Actions x1.Action).Body) x14_).Kind)=2))then
   LET (nt x0 zE102 ((ix ((ix x0.Actions x1.Action).Body) x14_).Header)) λy137=>
   ft x0 x1 y110 K0 m x3_ (x14_+1) y137
  else
  if(decide (((ix ((ix x0.Actions x1.Action).Body) x14_).Kind)=3))then
   LET (lr x0 zE102 ((ix ((ix x0.Actions x1.Action).Body) x14_).Header)) λy141=>
   ft x0 x1 y110 K0 m x3_ (x14_+1) y141
  else
  if(decide (((ix ((ix x0.Actions x1.Action).Body) x14_).Kind)=4))then
   LET (ah5 x0 x3_ ((ix ((ix x0.Actions x1.Action).Body) x14_).Register) y127) λy146=>
   LET (ot x0 zE102 ((ix ((ix x0.Actions x1.Action).Body) x14_).Dst) y146) λy147=>
   ft x0 x1 y110 K0 m x3_ (x14_+1) y147
  else
  LET (ll x0 x3_ ((ix ((ix x0.Actions x1.Action).Body) x14_).Register) y127 y130) λy150=>
  ft x0 x1 y110 K0 m y150 (x14_+1) zE102
def jm(x0:aa)(x1:cp)(x2:ax)(x3:List (List (BitVec 32))):ax×(List (List (BitVec 32))):=
 LET (me x0 x1.Action) λy105=>
 if((!decide (y105.2=0))||(!decide ((iy x0 x1)=0)))then
  (x2,x3)
 else
 LET (qk x0 x1.Action) λy110=>
 ft x0 x1 y110 (λ(x3_152:List (List (BitVec 32)))(zE102_152:ax)=>
  (zE102_152,x3_152)) (Int.toNat ((((ix x0.Actions x1.Action).Body).length:Int)-0)) x3 0 x2
def ji(x0:List (BitVec 32))(x1:List (BitVec 32))(K0:Unit->Bool):Nat->Int->Bool
 |0,x5_=>K0 ()
 |m+1,x5_=>
  if(!decide ((ix x0 x5_)=(ix x1 x5_)))then
   false
  else
  ji x0 x1 K0 m (x5_+1)
def oe(x0:List (BitVec 32))(x1:List (BitVec 32)):Bool:=
 if(!decide ((x0.length:Int)=(x1.length:Int)))then
  false
 else
 ji x0 x1 (λ(_:Unit)=>
  true) (Int.toNat ((x0.length:Int)-0)) 0
def km(x0:aa)(x1:ax)(x2:ax)(x3:List Int)(x9_:Int)(K2:Unit->Bool):Nat->Int->Bool
 |0,x10_=>K2 ()
 |m+1,x10_=>
  LET (ig x1 ({Header:=x9_,Field:=x10_}:ae)) λy122=>
  LET (ig x2 ({Header:=x9_,Field:=x10_}:ae)) λy123=>
  if((!decide (y122=y123))&&(!(gu x3 (fd x0 ({Header:=x9_,Field:=x10_}:ae)))))then
   true
  else
  km x0 x1 x2 x3 x9_ K2 m (x10_+1)
def kf(x0:aa)(x1:ax)(x2:ax)(x3:List Int)(K0:Unit->Bool):Nat->Int->Bool
 |0,x9_=>K0 ()
 |m+1,x9_=>
  LET (lp x1 x9_) λy105=>
  LET (lp x2 x9_) λy106=>
  if((!decide (y105=y106))&&(!(gu x3 (ga x0 x9_))))then
   true
  else
  km x0 x1 x2 x3 x9_ (λ(_:Unit)=>
   kf x0 x1 x2 x3 K0 m (x9_+1)) (Int.toNat ((((ix x0.Headers x9_).Fields).length:Int)-0)) 0
def ke(x0:aa)(x1:ax)(x2:ax)(x3:List Int)(K4:Unit->Bool):Nat->Int->Bool
 |0,x12_=>K4 ()
 |m+1,x12_=>
  LET (ig x1 ({Header:=(-1),Field:=x12_}:ae)) λy137=>
  LET (ig x2 ({Header:=(-1),Field:=x12_}:ae)) λy138=>
  if((!decide (y137=y138))&&(!(gu x3 (fd x0 ({Header:=(-1),Field:=x12_}:ae)))))then
   true
  else
  ke x0 x1 x2 x3 K4 m (x12_+1)
def si(x0:aa)(x1:ax)(x2:ax)(x3:List Int):Bool:=
 kf x0 x1 x2 x3 (λ(_:Unit)=>
  ke x0 x1 x2 x3 (λ(_:Unit)=>
   false) (Int.toNat ((x0.Metadata.length:Int)-0)) 0) (Int.toNat ((x0.Headers.length:Int)-0)) 0
def im(x0:aa)(x2:dj)(K0:Unit->Bool):Nat->Int->Bool
 |0,x7_=>K0 ()
 |m+1,x7_=>
  if(!decide (((ix x2.Registers x7_).length:Int)=((ix x0.Registers x7_).Size)))then
   LET (ul) λy137=>
   y137
  else
  im x0 x2 K0 m (x7_+1)
def ip(x0:aa)(x2:dj)(y139:(List Int))(y144:ax×(List (List (BitVec 32))))(K2:Unit->Bool):Nat->Int->Bool
 |0,x11_=>K2 ()
 |m+1,x11_=>
  LET (oe (ix y144.2 x11_) (ix x2.Registers x11_)) λy155=>
  if((!y155)&&(!(gu y139 (fk x0 x11_))))then
   false
  else
  ip x0 x2 y139 y144 K2 m (x11_+1)
def nk(x0:aa)(x1:Int)(x2:dj):Bool:=
 LET (jk x0) λy101=>
 if((((((((y101||(decide (x1 < 0)))||(decide ((x0.Tables.length:Int)<=x1)))||(decide (600 < (x2.Env.Payload.length:Int))))||(decide (10 < (x2.Call.Args.length:Int))))||(!decide (((lk x0).Code)=0)))||(!decide ((mr x0 x2.Env)=0)))||(!(gu ((ix x0.Tables x1).Actions) x2.Call.Action)))||(!decide ((x2.Registers.length:Int)=(x0.Registers.length:Int))))then
  LET (ul) λy127=>
  y127
 else
 im x0 x2 (λ(_:Unit)=>
  LET (mn x0 ({Table:=x1,Cond:=([]:List ak),Guards:=([]:List oz)}:ia)) λy139=>
  LET (jm x0 x2.Call x2.Env x2.Registers) λy144=>
  ip x0 x2 y139 y144 (λ(_:Unit)=>
   LET (si x0 x2.Env y144.1 y139) λy162=>
   ((!y162)&&(ul))) (Int.toNat ((y144.2.length:Int)-0)) 0) (Int.toNat ((x2.Registers.length:Int)-0)) 0
end Go.Proofs.YtmonnlkagniolaaGreat
